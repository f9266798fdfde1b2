import PyProof.Rows.All
import Wide.All
import OpenK.AllK
import Wide.FinOn
import PySem.Challenge.RW_whatiftimes_k09_settings
import PyProof.EqAt
import PyProof.EqKinds
import PyProof.TupleCall
import HandS.ForMost
import HandS.TupMul
import HandS.Exc
import HandS.ExcOwn
import HandS.CallSlots
import HandS.TryOnly
import HandS.TryMany
import HandS.WordsExc
import HandS.IsInst
import HandS.Lambda
import HandS.EndTab
import HandS.ExcField
import KE.KNestM
import HandS.Wide
import HandS.TupAny
import HandS.Style
import PyProof.ReprRoads
import HandS.EndBits
import HandS.Comp
import HandS.Words
import HandS.Dict
import HandS.More
import PyProof.RulesMatch
import KE.KExcInit
import PyProof.ExcBaseAll.LookupError
import KE.KIsAll
import HandS.ExcIs
import HandS.SortInts
import HandS.Property
import HandS.Defaults
import HandS.DictComp
import HandS.ListItems
import KE.GoesMore
import KE.KRevSl
import HandS.Replace
import PyProof.Rows.InDataRows
import HandS.Text
import HandS.SlotsOwn
import KE.KEqDict
import HandS.MakeKw
set_option Elab.async false
set_option linter.all false
set_option autoImplicit false
set_option maxRecDepth 100000
set_option maxHeartbeats 4000000
/-! SLPre: which defs of the law make lambdas. -/
namespace SL
open PySem
def lamNames : List Str := ["_law_odd_right"]
end SL

set_option Elab.async false
set_option linter.all false
set_option autoImplicit false
set_option maxRecDepth 100000
set_option maxHeartbeats 4000000
/-! SL: a layer of plain functions over HandS. A def of the program is mirrored by a plain Lean function over the values IV; one rule a construct says that the mirror tells what the def does. -/
namespace SL
open PySem PySem.Spec L2
open PyProof.Rows hiding St

/-- a value as plain data; cell n: the n-th object that may still change; glb x: what the module keeps under the name x -/
inductive IV where
  | non | bl (b : Bool) | int (i : Int) | str (s : Str) | ty (n : String) | glb (x : Str)
  | tup (xs : List IV) | lst (xs : List IV) | rol (xs : List IV) | dct (ks : List Key) (xs : List IV) | cell (n : Nat)
  | obj (c : Str) (fs : List Str) (xs : List IV)

/-- what stands at a cell -/
inductive Cell where
  | lst (xs : List IV) | dct (ks : List Key) (xs : List IV) | ins (c : Str) (fs : List Str) (xs : List IV) | dead

/-- what a slot of a def's frame holds; own: a list of the frame's own, handed to nobody yet -/
structure Exn where
  cls : Str
  fs : List Str
  xs : List IV
/-- what a slot holds; exn: the exception that a suite holds, at a, its class and its dict -/
inductive SV where
  | un | v (x : IV) | own (xs : List IV) | exn (e : Exn) (a : Addr) (cls : Value) (d : Option Addr)

inductive Res (α : Type) where
  | ok (a : α) (cs : List Cell) | ex (e : Exn) (cs : List Cell) | stuck

inductive SR where
  | next (σ : List SV) (cs : List Cell) | ret (x : IV) (cs : List Cell) | brk (σ : List SV) (cs : List Cell) | cnt (σ : List SV) (cs : List Cell)
  | ex (e : Exn) (σ : List SV) (cs : List Cell) | stuck

/-- an expression's mirror; a statement's; a def's -/
abbrev M (α : Type) := Nat → List SV → List Cell → Res α
abbrev SM := Nat → List SV → List Cell → SR
abbrev FM := Nat → List IV → List Cell → Res IV

def Res.then {α β : Type} (r : Res α) (k : α → List Cell → Res β) : Res β :=
  match r with
  | .ok a cs => k a cs
  | .ex e cs => .ex e cs
  | .stuck => .stuck
def M.pure {α : Type} (a : α) : M α := fun _ _ cs => .ok a cs
def M.bind {α β : Type} (m : M α) (k : α → M β) : M β := fun n σ cs => (m n σ cs).then fun a cs' => k a n σ cs'
def M.opt {α : Type} (o : Option α) : M α := fun _ _ cs => match o with
  | some a => .ok a cs
  | none => .stuck

/-! ### the relation -/
structure Gx where
  K : PySem.W.Frag
  mg : Str → Option Value
  T : List (Addr × Str)
/-- the tables of code objects of the defs that make lambdas -/
def lamT (K : PySem.W.Frag) : List (Addr × Str) := lamNames.filterMap fun x => (PySem.W.tabIn K x).map fun p => (p.2, x ++ ".<locals>." ++ "<lambda>")
abbrev gK (K : PySem.W.Frag) (mg : Str → Option Value) : Gx := ⟨K, mg, lamT K⟩
/-- neither a table nor a code object -/
def NoX (o : Option HO) : Prop := (∀ ps, o ≠ some (.tbl ps)) ∧ ∀ c q, o ≠ some (LamX.CodeO c q)
theorem NoX.none : NoX Option.none := ⟨fun _ z => (by cases z), fun _ _ z => (by cases z)⟩
theorem NoX.lst {vs : List V} : NoX (some (.lst vs)) := ⟨fun _ z => (by cases z), fun _ _ z => (by unfold LamX.CodeO at z; cases z)⟩
theorem NoX.dK {vs : List (Key × V)} : NoX (some (.dK vs)) := ⟨fun _ z => (by cases z), fun _ _ z => (by unfold LamX.CodeO at z; cases z)⟩
theorem NoX.ins {C : Addr} {dx : Addr} {vs : List (Str × V)} : NoX (some (.ins C dx vs)) := ⟨fun _ z => (by cases z), fun _ _ z => (by unfold LamX.CodeO at z; cases z)⟩
theorem ft_upd {F : Hp} {p : Addr} {o : HO} (h : ∀ a ps, F a ≠ some (.tbl ps)) (ho : ∀ ps, o ≠ .tbl ps) : ∀ a ps, upd F p o a ≠ some (.tbl ps) := fun a ps z => by
  by_cases e : a = p
  · rw [e, upd_same] at z
    exact ho ps (Option.some.inj z)
  · rw [upd_ne e] at z
    exact h a ps z
theorem tabs_upd {T : List (Addr × Str)} {H : Hp} {p : Addr} {o : HO} (t : LamX.Tabs T H) (h : NoX (H p)) : LamX.Tabs T (upd H p o) := fun x hx => by
  obtain ⟨ps, h1, h2, h3⟩ := t x hx
  refine ⟨ps, by rw [upd_ne (fun z => h.1 ps (by rw [← z]; exact h1))]; exact h1, h2, fun pos cv hc => ?_⟩
  obtain ⟨c, e1, e2⟩ := h3 pos cv hc
  exact ⟨c, e1, by rw [upd_ne (fun z => h.2 c x.2 (by rw [← z]; exact e2))]; exact e2⟩

/-- a dict of int and text keys that stands still -/
def DctR (F : Hp) (a : Addr) (kvs : List (Key × V)) : Prop := ∃ o, F a = some (.frz o (.dK kvs))
theorem DctR.mono {F F' : Hp} {a : Addr} {kvs : List (Key × V)} (h : DctR F a kvs) (s : ∀ a o, F a = some o → F' a = some o) : DctR F' a kvs := let ⟨o, e⟩ := h; ⟨o, s _ _ e⟩

mutual
def Rel (g : Gx) (F : Hp) (ρ : List Addr) : IV → V → Prop
  | .non, v => v = .non
  | .bl b, v => v = .bl b
  | .int i, v => v = .int i
  | .str s, v => v = .str s
  | .ty n, v => v = .ty n
  | .glb x, v => ∃ a, g.mg x = some (.ref a) ∧ v = .ref a
  | .tup xs, v => ∃ a vs, v = .ref a ∧ SqT g.K F a vs ∧ RelL g F ρ xs vs
  | .lst xs, v => ∃ a vs, v = .ref a ∧ F a = some (.lst vs) ∧ RelL g F ρ xs vs
  | .rol xs, v => ∃ a vs, v = .ref a ∧ SqL g.K F a vs ∧ RelL g F ρ xs vs
  | .dct ks xs, v => ∃ a vs, v = .ref a ∧ ks.length = vs.length ∧ DctR F a (ks.zip vs) ∧ RelL g F ρ xs vs
  | .cell n, v => ∃ a, v = .ref a ∧ ρ[n]? = some a
  | .obj c fs xs, v => ∃ a C dx vs, v = .ref a ∧ g.mg c = some (.ref C) ∧ F a = some (.ins C dx (fs.zip vs)) ∧ fs.length = vs.length ∧ RelL g F ρ xs vs
def RelL (g : Gx) (F : Hp) (ρ : List Addr) : List IV → List V → Prop
  | [], vs => vs = []
  | x :: xs, vs => ∃ v r, vs = v :: r ∧ Rel g F ρ x v ∧ RelL g F ρ xs r
end

def RelC (g : Gx) (F : Hp) (ρ : List Addr) : Cell → Option HO → Prop
  | .lst xs, o => ∃ vs, o = some (.lst vs) ∧ RelL g F ρ xs vs
  | .dct ks xs, o => ∃ vs, o = some (.dK (ks.zip vs)) ∧ ks.length = vs.length ∧ RelL g F ρ xs vs
  | .ins c fs xs, o => ∃ C dx vs, g.mg c = some (.ref C) ∧ o = some (.ins C dx (fs.zip vs)) ∧ fs.length = vs.length ∧ RelL g F ρ xs vs
  | .dead, _ => True

structure Sim (g : Gx) (F : Hp) (ρ : List Addr) (cs : List Cell) (H : Hp) : Prop where
  fz : ∀ a o, F a = some o → H a = some o
  len : ρ.length = cs.length
  nd : ρ.Nodup
  av : ∀ a ∈ ρ, H a ≠ none
  lv : ∀ (n : Nat) (c : Cell) (a : Addr), cs[n]? = some c → ρ[n]? = some a → c ≠ .dead → F a = none
  ok : ∀ (n : Nat) (c : Cell) (a : Addr), cs[n]? = some c → ρ[n]? = some a → RelC g F ρ c (H a)
  tb : LamX.Tabs g.T H
  nx : ∀ a ∈ ρ, NoX (H a)
  ft : ∀ a ps, F a ≠ some (.tbl ps)

def NoTbl (o : HO) : Prop := ∀ ps, o ≠ .tbl ps

/-- what may have come to pass: U, lists of the frame's own, may have changed or been handed out -/
structure StpU (U : Addr → Prop) (F : Hp) (ρ : List Addr) (H : Hp) (F' : Hp) (ρ' : List Addr) (H' : Hp) : Prop where
  fz : ∀ a o, F a = some o → F' a = some o
  fn : ∀ a, F' a ≠ none → F a = none → H a = none ∨ (U a ∨ a ∈ ρ)
  rp : ∃ t, ρ' = ρ ++ t
  rn : ∀ a ∈ ρ', a ∉ ρ → H a = none ∨ U a
  fr : ∀ a o, H a = some o → NoTbl o → a ∉ ρ → ¬ U a → H' a = some o
  dm : ∀ a, H a ≠ none → H' a ≠ none
abbrev Stp := StpU (fun _ => False)

theorem StpU.refl {U : Addr → Prop} {F : Hp} {ρ : List Addr} {H : Hp} : StpU U F ρ H F ρ H :=
  ⟨fun _ _ h => h, fun _ h h' => absurd h' h, ⟨[], by simp⟩, fun _ h h' => absurd h h', fun _ _ h _ _ _ => h, fun _ h => h⟩
theorem StpU.trans {U U' : Addr → Prop} {F F1 F2 : Hp} {ρ ρ1 ρ2 : List Addr} {H H1 H2 : Hp} (a : StpU U F ρ H F1 ρ1 H1) (b : StpU U' F1 ρ1 H1 F2 ρ2 H2) (hu : ∀ x, U' x → U x ∨ H x = none) : StpU U F ρ H F2 ρ2 H2 where
  fz := fun x o h => b.fz x o (a.fz x o h)
  fn := fun x h h' => by
    cases e : F1 x with
    | some o => exact a.fn x (by rw [e]; intro z; cases z) h'
    | none =>
      rcases b.fn x h e with z | z | z
      · left
        cases e2 : H x with
        | none => rfl
        | some o => exact absurd z (a.dm x (by rw [e2]; intro z; cases z))
      · exact (hu x z).symm.imp id .inl
      · by_cases h1 : x ∈ ρ
        · exact .inr (.inr h1)
        · exact (a.rn x z h1).imp id .inl
  rp := by
    obtain ⟨t, rfl⟩ := a.rp
    obtain ⟨u, rfl⟩ := b.rp
    exact ⟨t ++ u, by rw [List.append_assoc]⟩
  rn := fun x h h' => by
    by_cases h1 : x ∈ ρ1
    · exact a.rn x h1 h'
    · rcases b.rn x h h1 with z | z
      · left
        cases e2 : H x with
        | none => rfl
        | some o => exact absurd z (a.dm x (by rw [e2]; intro z; cases z))
      · exact (hu x z).symm
  fr := fun x o h nt h' hU => by
    have h1 := a.fr x o h nt h' hU
    refine b.fr x o h1 nt (fun z => ?_) (fun z => ?_)
    · rcases a.rn x z h' with this | this
      · rw [this] at h; cases h
      · exact hU this
    · rcases hu x z with z | z
      · exact hU z
      · rw [z] at h; cases h
  dm := fun x h => b.dm x (a.dm x h)
theorem Stp.tr {F F1 F2 : Hp} {ρ ρ1 ρ2 : List Addr} {H H1 H2 : Hp} (a : Stp F ρ H F1 ρ1 H1) (b : Stp F1 ρ1 H1 F2 ρ2 H2) : Stp F ρ H F2 ρ2 H2 := StpU.trans a b fun _ z => z.elim
theorem Stp.u {U : Addr → Prop} {F F1 : Hp} {ρ ρ1 : List Addr} {H H1 : Hp} (a : Stp F ρ H F1 ρ1 H1) : StpU U F ρ H F1 ρ1 H1 :=
  ⟨a.fz, fun x h h' => (a.fn x h h').imp id (fun z => z.elim False.elim .inr), a.rp, fun x h h' => (a.rn x h h').elim .inl (fun z => z.elim), fun x o h nt h' _ => a.fr x o h nt h' (fun z => z), a.dm⟩

section
variable {g : Gx} {U : Addr → Prop} {F F' : Hp} {ρ ρ' : List Addr} {H H' : Hp}
theorem rd_mono (s : ∀ a o, F a = some o → F' a = some o) {a : Addr} {u : HO} (h : Rd F a u) : Rd F' a u := by
  rcases h with h | ⟨o, h⟩
  · exact .inl (s _ _ h)
  · exact .inr ⟨o, s _ _ h⟩
theorem sqT_mono {K : PySem.W.Frag} (s : ∀ a o, F a = some o → F' a = some o) {a : Addr} {vs : List V} (h : SqT K F a vs) : SqT K F' a vs := by
  rcases h with h | h
  · exact .inl (rd_mono s h)
  · exact .inr h
theorem sqL_mono {K : PySem.W.Frag} (s : ∀ a o, F a = some o → F' a = some o) {a : Addr} {vs : List V} (h : SqL K F a vs) : SqL K F' a vs := by
  rcases h with h | h
  · exact .inl (rd_mono s h)
  · exact .inr h
mutual
theorem Rel.mono (s : ∀ a o, F a = some o → F' a = some o) (p : ∃ t, ρ' = ρ ++ t) : ∀ {x : IV} {v : V}, Rel g F ρ x v → Rel g F' ρ' x v
  | .non, _, h => h
  | .bl _, _, h => h
  | .int _, _, h => h
  | .str _, _, h => h
  | .ty _, _, h => h
  | .glb _, _, h => h
  | .tup xs, v, h => by
    simp only [Rel] at h ⊢
    obtain ⟨a, vs, e, h1, h2⟩ := h
    exact ⟨a, vs, e, sqT_mono s h1, RelL.mono s p h2⟩
  | .lst xs, v, h => by
    simp only [Rel] at h ⊢
    obtain ⟨a, vs, e, h1, h2⟩ := h
    exact ⟨a, vs, e, s _ _ h1, RelL.mono s p h2⟩
  | .rol xs, v, h => by
    simp only [Rel] at h ⊢
    obtain ⟨a, vs, e, h1, h2⟩ := h
    exact ⟨a, vs, e, sqL_mono s h1, RelL.mono s p h2⟩
  | .dct ks xs, v, h => by
    simp only [Rel] at h ⊢
    obtain ⟨a, vs, e, hl, h1, h2⟩ := h
    exact ⟨a, vs, e, hl, h1.mono s, RelL.mono s p h2⟩
  | .cell n, v, h => by
    simp only [Rel] at h ⊢
    obtain ⟨a, e, h1⟩ := h
    obtain ⟨t, rfl⟩ := p
    have hn := (List.getElem?_eq_some_iff.mp h1).1
    exact ⟨a, e, by rw [List.getElem?_append_left hn]; exact h1⟩
  | .obj c fs xs, v, h => by
    simp only [Rel] at h ⊢
    obtain ⟨a, C, dx, vs, e, h1, h2, h3, h4⟩ := h
    exact ⟨a, C, dx, vs, e, h1, s _ _ h2, h3, RelL.mono s p h4⟩
theorem RelL.mono (s : ∀ a o, F a = some o → F' a = some o) (p : ∃ t, ρ' = ρ ++ t) : ∀ {xs : List IV} {vs : List V}, RelL g F ρ xs vs → RelL g F' ρ' xs vs
  | [], _, h => by simp only [RelL] at h ⊢; exact h
  | x :: xs, vs, h => by
    simp only [RelL] at h ⊢
    obtain ⟨v, r, e, h1, h2⟩ := h
    exact ⟨v, r, e, Rel.mono s p h1, RelL.mono s p h2⟩
end
theorem Rel.stp (t : StpU U F ρ H F' ρ' H') {x : IV} {v : V} (h : Rel g F ρ x v) : Rel g F' ρ' x v := h.mono t.fz t.rp
theorem RelL.stp (t : StpU U F ρ H F' ρ' H') {x : List IV} {v : List V} (h : RelL g F ρ x v) : RelL g F' ρ' x v := h.mono t.fz t.rp
theorem RelL.nil : RelL g F ρ [] [] := by simp only [RelL]
theorem RelL.cons {x : IV} {v : V} {xs : List IV} {vs : List V} (h : Rel g F ρ x v) (hs : RelL g F ρ xs vs) : RelL g F ρ (x :: xs) (v :: vs) := by
  simp only [RelL]
  exact ⟨v, vs, rfl, h, hs⟩
theorem RelL.len : ∀ {xs : List IV} {vs : List V}, RelL g F ρ xs vs → xs.length = vs.length
  | [], vs, h => by simp only [RelL] at h; subst h; rfl
  | x :: xs, vs, h => by
    simp only [RelL] at h
    obtain ⟨v, r, e, h1, h2⟩ := h
    subst e
    simp only [List.length_cons, h2.len]
theorem RelL.get : ∀ {xs : List IV} {vs : List V}, RelL g F ρ xs vs → ∀ {i : Nat} {x : IV}, xs[i]? = some x → ∃ v, vs[i]? = some v ∧ Rel g F ρ x v
  | [], vs, h, i, x, e => by simp at e
  | y :: xs, vs, h, i, x, e => by
    simp only [RelL] at h
    obtain ⟨v, r, e2, h1, h2⟩ := h
    subst e2
    cases i with
    | zero =>
      simp only [List.getElem?_cons_zero, Option.some.injEq] at e
      subst e
      exact ⟨v, rfl, h1⟩
    | succ j =>
      simp only [List.getElem?_cons_succ] at e
      obtain ⟨w, a, b⟩ := h2.get e
      exact ⟨w, by simpa using a, b⟩
theorem RelL.append : ∀ {xs ys : List IV} {vs ws : List V}, RelL g F ρ xs vs → RelL g F ρ ys ws → RelL g F ρ (xs ++ ys) (vs ++ ws)
  | [], ys, vs, ws, h, h' => by simp only [RelL] at h; subst h; exact h'
  | x :: xs, ys, vs, ws, h, h' => by
    simp only [RelL] at h
    obtain ⟨v, r, e, h1, h2⟩ := h
    subst e
    exact .cons h1 (h2.append h')
theorem RelL.take : ∀ {xs : List IV} {vs : List V} (n : Nat), RelL g F ρ xs vs → RelL g F ρ (xs.take n) (vs.take n)
  | xs, vs, 0, h => by simp only [List.take_zero]; exact .nil
  | [], vs, n + 1, h => by simp only [RelL] at h; subst h; exact .nil
  | x :: xs, vs, n + 1, h => by
    simp only [RelL] at h
    obtain ⟨v, r, e, h1, h2⟩ := h
    subst e
    exact .cons h1 (h2.take n)
theorem RelL.drop : ∀ {xs : List IV} {vs : List V} (n : Nat), RelL g F ρ xs vs → RelL g F ρ (xs.drop n) (vs.drop n)
  | xs, vs, 0, h => h
  | [], vs, n + 1, h => by simp only [RelL] at h; subst h; exact .nil
  | x :: xs, vs, n + 1, h => by
    simp only [RelL] at h
    obtain ⟨v, r, e, h1, h2⟩ := h
    subst e
    exact h2.drop n
theorem RelL.reverse : ∀ {xs : List IV} {vs : List V}, RelL g F ρ xs vs → RelL g F ρ xs.reverse vs.reverse
  | [], vs, h => by simp only [RelL] at h; subst h; exact .nil
  | x :: xs, vs, h => by
    simp only [RelL] at h
    obtain ⟨v, r, e, h1, h2⟩ := h
    subst e
    simp only [List.reverse_cons]
    exact h2.reverse.append (.cons h1 .nil)
theorem RelL.set {y : IV} {w : V} (hy : Rel g F ρ y w) : ∀ {xs : List IV} {vs : List V} (n : Nat), RelL g F ρ xs vs → RelL g F ρ (xs.set n y) (vs.set n w)
  | [], vs, n, h => by simp only [RelL] at h; subst h; exact .nil
  | x :: xs, vs, n, h => by
    simp only [RelL] at h
    obtain ⟨v, r, e, h1, h2⟩ := h
    subst e
    cases n with
    | zero => exact .cons hy h2
    | succ n => exact .cons h1 (h2.set hy n)
theorem RelC.mono (s : ∀ a o, F a = some o → F' a = some o) (p : ∃ t, ρ' = ρ ++ t) {c : Cell} {o : Option HO} (h : RelC g F ρ c o) : RelC g F' ρ' c o := by
  cases c with
  | lst xs =>
    obtain ⟨vs, e, r⟩ := h
    exact ⟨vs, e, r.mono s p⟩
  | dct ks xs =>
    obtain ⟨vs, e, l, r⟩ := h
    exact ⟨vs, e, l, r.mono s p⟩
  | ins c fs xs =>
    obtain ⟨C, dx, vs, m, e, l, r⟩ := h
    exact ⟨C, dx, vs, m, e, l, r.mono s p⟩
  | dead => exact h
end

/-- an exception in flight -/
def RelEx (g : Gx) (F : Hp) (ρ : List Addr) (e : Exn) (cls : Value) (d : Option Addr) : Prop :=
  ∃ C dd vs, g.mg e.cls = some (.ref C) ∧ cls = .ref C ∧ d = some dd ∧ F dd = some (.xd (e.fs.zip vs)) ∧ e.fs.length = vs.length ∧ RelL g F ρ e.xs vs
theorem RelEx.mono {g : Gx} {F F' : Hp} {ρ ρ' : List Addr} (s : ∀ a o, F a = some o → F' a = some o) (p : ∃ t, ρ' = ρ ++ t) {e : Exn} {cls : Value} {d : Option Addr} (h : RelEx g F ρ e cls d) : RelEx g F' ρ' e cls d := by
  obtain ⟨C, dd, vs, h1, h2, h3, h4, h5, h6⟩ := h
  exact ⟨C, dd, vs, h1, h2, h3, s _ _ h4, h5, h6.mono s p⟩

/-! ### slots -/
def SltR (g : Gx) (F : Hp) (ρ : List Addr) (H : Hp) : SV → Option (Option V) → Prop
  | .un, _ => True
  | .v x, o => ∃ v, o = some (some v) ∧ Rel g F ρ x v
  | .own xs, o => ∃ a vs, o = some (some (.ref a)) ∧ H a = some (.lst vs) ∧ F a = none ∧ a ∉ ρ ∧ RelL g F ρ xs vs
  | .exn e a cls d, o => o = some (some (.ref a)) ∧ RelEx g F ρ e cls d
def Own (σi : List SV) (σ : St) (a : Addr) : Prop := ∃ (i : Nat) (xs : List IV), σi[i]? = some (SV.own xs) ∧ σ[i]? = some (some (.ref a))
structure Slts (g : Gx) (F : Hp) (ρ : List Addr) (H : Hp) (σi : List SV) (σ : St) : Prop where
  len : σi.length = σ.length
  at_ : ∀ (i : Nat) (s : SV), σi[i]? = some s → SltR g F ρ H s σ[i]?
  ow : ∀ (i j : Nat) (xs ys : List IV) (a : Addr), σi[i]? = some (.own xs) → σi[j]? = some (.own ys) → σ[i]? = some (some (.ref a)) → σ[j]? = some (some (.ref a)) → i = j
section
variable {g : Gx} {F F' : Hp} {ρ ρ' : List Addr} {H H' : Hp} {σi : List SV} {σ : St}
theorem Slts.stp (l : Slts g F ρ H σi σ) (t : Stp F ρ H F' ρ' H') : Slts g F' ρ' H' σi σ := by
  refine ⟨l.len, fun i s e => ?_, l.ow⟩
  have h := l.at_ i s e
  cases s with
  | un => trivial
  | exn e a cls d => exact ⟨h.1, h.2.mono t.fz t.rp⟩
  | v x =>
    obtain ⟨v, e, r⟩ := h
    exact ⟨v, e, r.stp t⟩
  | own xs =>
    obtain ⟨a, vs, e, h1, h2, h3, r⟩ := h
    refine ⟨a, vs, e, t.fr a _ h1 (fun ps z => by cases z) h3 (fun z => z), ?_, fun z => ?_, r.stp t⟩
    · cases q : F' a with
      | none => rfl
      | some o =>
        rcases t.fn a (by rw [q]; intro z; cases z) h2 with z | z | z
        · rw [h1] at z; cases z
        · exact z.elim
        · exact absurd z h3
    · rcases t.rn a z h3 with this | this
      · rw [h1] at this; cases this
      · exact this
end

/-! ### what a mirror's answer promises -/
section
variable {α β γ δ : Type}
abbrev RR (α β : Type) := Hp → List Addr → α → β → Prop
def Pst (g : Gx) (W : WX) (σ : St) (R : RR α β) (F : Hp) (ρ : List Addr) (H : Hp) (r : Res α) (Q : β → Hp → Prop) : Prop :=
  match r with
  | .ok x cs' => ∀ F' ρ' H' v, Stp F ρ H F' ρ' H' → Sim g F' ρ' cs' H' → R F' ρ' x v → Q v H'
  | .ex e cs' => ∀ F' ρ' H' cls d, Stp F ρ H F' ρ' H' → Sim g F' ρ' cs' H' → RelEx g F' ρ' e cls d → W cls d σ H'
  | .stuck => False
/-- the reading of a mirror -/
def tG (g : Gx) (n : Nat) (W : WX) (R : RR α β) (m : M α) : St → Hp → (β → Hp → Prop) → Prop := fun σ H Q =>
  ∃ F ρ cs σi, Sim g F ρ cs H ∧ Slts g F ρ H σi σ ∧ Pst g W σ R F ρ H (m n σi cs) Q
variable {g : Gx} {n : Nat} {W : WX} {R : RR α β} {R' : RR γ δ} {F F' : Hp} {ρ ρ' : List Addr} {H H' : Hp} {σ : St} {σi : List SV} {cs : List Cell} {Q Q' : β → Hp → Prop}
theorem Pst.mono {r : Res α} (h : Pst g W σ R F ρ H r Q) (hq : ∀ v H', Q v H' → Q' v H') : Pst g W σ R F ρ H r Q' := by
  cases r with
  | ok x cs' => exact fun F' ρ' H' v a b c => hq _ _ (h F' ρ' H' v a b c)
  | ex e cs' => exact h
  | stuck => exact h
theorem Pst.stp {r : Res α} (h : Pst g W σ R F ρ H r Q) (t : Stp F ρ H F' ρ' H') : Pst g W σ R F' ρ' H' r Q := by
  cases r with
  | ok x cs' => exact fun F2 ρ2 H2 v a b c => h F2 ρ2 H2 v (t.tr a) b c
  | ex e cs' => exact fun F2 ρ2 H2 cls d a b c => h F2 ρ2 H2 cls d (t.tr a) b c
  | stuck => exact h
theorem tG.mono {m : M α} (h : tG g n W R m σ H Q) (hq : ∀ v H', Q v H' → Q' v H') : tG g n W R m σ H Q' := by
  obtain ⟨F, ρ, cs, σi, hs, hl, hp⟩ := h
  exact ⟨F, ρ, cs, σi, hs, hl, hp.mono hq⟩
/-- one step: m runs, then its continuation's answer is what was promised -/
theorem go {m : M α} {k : α → List Cell → Res γ} {Q2 : δ → Hp → Prop} (hs : Sim g F ρ cs H) (hl : Slts g F ρ H σi σ) (hp : Pst g W σ R' F ρ H ((m n σi cs).then k) Q2)
    (h : ∀ v H' F' ρ' cs' x, Stp F ρ H F' ρ' H' → Sim g F' ρ' cs' H' → Slts g F' ρ' H' σi σ → R F' ρ' x v → Pst g W σ R' F' ρ' H' (k x cs') Q2 → Q v H') : tG g n W R m σ H Q := by
  refine ⟨F, ρ, cs, σi, hs, hl, ?_⟩
  cases e : m n σi cs with
  | ok x cs' =>
    rw [e] at hp
    intro F' ρ' H' v st sm r
    exact h v H' F' ρ' cs' x st sm (hl.stp st) r (Pst.stp hp st)
  | ex ee cs' =>
    rw [e] at hp
    exact hp
  | stuck =>
    rw [e] at hp
    exact hp
end

abbrev RB : RR Bool Bool := fun _ _ a b => a = b
abbrev gx (X : Cx) : Gx := gK X.K X.mg
/-- e does as its mirror m -/
def JE (X : Cx) (n : Nat) (W : WX) (e : Expr) (m : M IV) : Prop := PE X e (tG (gx X) n W (Rel (gx X)) m)
def JT (X : Cx) (n : Nat) (W : WX) (e : Expr) (m : M Bool) : Prop := PT X e (tG (gx X) n W RB m)
def JW (X : Cx) (n : Nat) (W : WX) (e : Expr) (m : M Bool) : Prop := PW X e (tG (gx X) n W RB m)
def JA (X : Cx) (n : Nat) (W : WX) (es : List Expr) (m : M (List IV)) : Prop := PA X es (tG (gx X) n W (RelL (gx X)) m)
theorem pe_imp {X : Cx} {e : Expr} {t t' : TE} (h : PE X e t) (i : ∀ σ H Q, t' σ H Q → t σ H Q) : PE X e t' := ⟨fun pins s σ H Q I q => h.run pins s σ H Q I (i σ H Q q)⟩
theorem pt_imp {X : Cx} {e : Expr} {t t' : TT} (h : PT X e t) (i : ∀ σ H Q, t' σ H Q → t σ H Q) : PT X e t' := ⟨fun pins s σ H Q I q => h.run pins s σ H Q I (i σ H Q q)⟩
theorem pw_imp {X : Cx} {e : Expr} {t t' : TT} (h : PW X e t) (i : ∀ σ H Q, t' σ H Q → t σ H Q) : PW X e t' := ⟨fun w pins s σ H Q I q => h.run w pins s σ H Q I (i σ H Q q)⟩
theorem pa_imp {X : Cx} {e : List Expr} {t t' : TA} (h : PA X e t) (i : ∀ σ H Q, t' σ H Q → t σ H Q) : PA X e t' := ⟨fun p pins s σ H Q I q => h.run p pins s σ H Q I (i σ H Q q)⟩
theorem ps_imp {X : Cx} {e : Stmt} {t t' : TS} (h : PS X e t) (i : ∀ D σ H, t' D σ H → t D σ H) : PS X e t' := ⟨fun pins s σ H D I q => h.run pins s σ H D I (i D σ H q)⟩
theorem pss_imp {X : Cx} {e : List Stmt} {t t' : TS} (h : PSs X e t) (i : ∀ D σ H, t' D σ H → t D σ H) : PSs X e t' := ⟨fun pins s σ H D I q => h.run pins s σ H D I (i D σ H q)⟩
end SL

set_option Elab.async false
set_option linter.all false
set_option autoImplicit false
set_option maxRecDepth 100000
set_option maxHeartbeats 4000000
/-! SLExpr: names, constants, operators, comparisons, tests. -/
namespace SL
open PySem PySem.Spec L2
open PyProof.Rows hiding St

theorem upd_none {H : Hp} {p : Addr} {o : HO} (hp : H p = none) {a : Addr} {u : HO} (h : H a = some u) : upd H p o a = some u := by
  rw [upd_ne (ne_of_none h hp)]; exact h
/-- a new object that stands still from now on -/
theorem Sim.new {g : Gx} {F : Hp} {ρ : List Addr} {cs : List Cell} {H : Hp} {p : Addr} {o : HO} (hs : Sim g F ρ cs H) (hp : H p = none) (ho : ∀ ps, o ≠ .tbl ps := by intro _ z; cases z) : Sim g (upd F p o) ρ cs (upd H p o) ∧ Stp F ρ H (upd F p o) ρ (upd H p o) := by
  have fp : F p = none := by
    cases e : F p with
    | none => rfl
    | some u => rw [hs.fz p u e] at hp; cases hp
  have np : ∀ a ∈ ρ, a ≠ p := fun a ha z => hs.av a ha (by rw [z]; exact hp)
  have fm : ∀ a u, F a = some u → upd F p o a = some u := fun a u h => upd_none fp h
  refine ⟨⟨fun a u h => ?_, hs.len, hs.nd, fun a ha => ?_, fun n c a h1 h2 h3 => by rw [upd_ne (np a (List.mem_of_getElem? h2))]; exact hs.lv n c a h1 h2 h3, fun n c a h1 h2 => ?_, tabs_upd hs.tb (by rw [hp]; exact NoX.none), fun a ha => by rw [upd_ne (np a ha)]; exact hs.nx a ha, ft_upd hs.ft ho⟩, ⟨fm, fun a h h' => ?_, ⟨[], by simp⟩, fun a h h' => absurd h h', fun a u h _ _ _ => upd_none hp h, fun a h => ?_⟩⟩
  · by_cases e : a = p
    · subst e
      rw [upd_same] at h ⊢
      exact h
    · rw [upd_ne e] at h ⊢
      exact hs.fz a u h
  · rw [upd_ne (np a ha)]
    exact hs.av a ha
  · have ha : a ∈ ρ := List.mem_of_getElem? h2
    rw [upd_ne (np a ha)]
    exact (hs.ok n c a h1 h2).mono fm ⟨[], by simp⟩
  · by_cases e : a = p
    · left; rw [e]; exact hp
    · rw [upd_ne e] at h
      exact absurd h' h
  · by_cases e : a = p
    · rw [e, upd_same]; intro z; cases z
    · rw [upd_ne e]; exact h

theorem pst_opt {α β : Type} {g : Gx} {n : Nat} {W : WX} {R : RR α β} {F : Hp} {ρ : List Addr} {H : Hp} {σ : St} {σi : List SV} {cs : List Cell} {Q : β → Hp → Prop} {o : Option α} (h : Pst g W σ R F ρ H (M.opt o n σi cs) Q) :
    ∃ z, o = some z ∧ ∀ F' ρ' H' v, Stp F ρ H F' ρ' H' → Sim g F' ρ' cs H' → R F' ρ' z v → Q v H' := by
  cases o with
  | none => exact h.elim
  | some z => exact ⟨z, rfl, h⟩

abbrev lim : Nat := 1000000
theorem lim_le {n : Nat} (h : n ≤ lim) : n ≤ sizeLine := Nat.le_trans h (by decide)
theorem lim_lt {n : Nat} (h : n ≤ lim) : n < sizeLine := Nat.lt_of_le_of_lt h (by decide)

section
variable {X : Cx} {n : Nat} {W : WX} {a b c e : Expr} {ma mb mc m : M IV} {pos : Pos}

/-! ### names and constants -/
def eV (i : Nat) : M IV := fun _ σ cs => match σ[i]? with
  | some (.v x) => .ok x cs
  | _ => .stuck
theorem je_v (i : Nat) {x : Str} (hN : X.N[i]? = some x := by rfl) (hv : Vis X.env.scope x := by first | exact Or.inl rfl | exact Or.inr (Or.inl rfl) | exact Or.inr (Or.inr rfl)) (hd : (x == ("__debug__" : Str)) = false := by decide)
    (hcd : (x == ("__classdict__" : Str)) = false := by decide) : JE X n W (.Name x pos) (eV i) := by
  refine pe_imp (pe_var (i := i) hN hv hd hcd) fun σ H Q h => ?_
  obtain ⟨F, ρ, cs, σi, hs, hl, hp⟩ := h
  unfold eV at hp
  cases q : σi[i]? with
  | none => rw [q] at hp; exact hp.elim
  | some s =>
    rw [q] at hp
    cases s with
    | v x =>
      obtain ⟨v, e, r⟩ := hl.at_ i _ q
      exact ⟨v, e, hp F ρ H v StpU.refl hs r⟩
    | un => exact hp.elim
    | exn e a cls d => exact hp.elim
    | own xs => exact hp.elim
theorem je_c {v : V} {x : IV} (h : PE X e (tC v)) (r : ∀ F ρ, Rel (gx X) F ρ x v) : JE X n W e (M.pure x) := by
  refine pe_imp h fun σ H Q h => ?_
  obtain ⟨F, ρ, cs, σi, hs, hl, hp⟩ := h
  exact hp F ρ H v StpU.refl hs (r F ρ)
theorem je_int {i : Int} {j} : JE X n W (.Constant (.int i) j pos) (M.pure (.int i)) := je_c pe_int fun _ _ => by simp only [Rel]
theorem je_str {s : Str} {j} : JE X n W (.Constant (.str s) j pos) (M.pure (.str s)) := je_c pe_str fun _ _ => by simp only [Rel]
theorem je_bl {b : Bool} {j} : JE X n W (.Constant (.bool b) j pos) (M.pure (.bl b)) := je_c pe_bl fun _ _ => by simp only [Rel]
theorem je_non {j} : JE X n W (.Constant .none j pos) (M.pure .non) := je_c pe_non fun _ _ => by simp only [Rel]
/-- a module's constant, by its value -/
theorem je_gint {x : Str} {i : Int} {t : Tok} (hm : X.mg x = some (.int i t)) (hg : Gl X x := by rfl) (hd : (x == ("__debug__" : Str)) = false := by decide) : JE X n W (.Name x pos) (M.pure (.int i)) :=
  je_c (pe_glob (v := .int i) hg hm ⟨_, rfl⟩ hd) fun _ _ => by simp only [Rel]
theorem je_gstr {x : Str} {i : Str} {t : Tok} (hm : X.mg x = some (.str i t)) (hg : Gl X x := by rfl) (hd : (x == ("__debug__" : Str)) = false := by decide) : JE X n W (.Name x pos) (M.pure (.str i)) :=
  je_c (pe_glob (v := .str i) hg hm ⟨_, rfl⟩ hd) fun _ _ => by simp only [Rel]
theorem je_gref {x : Str} {a : Addr} (hm : X.mg x = some (.ref a)) (hg : Gl X x := by rfl) (hd : (x == ("__debug__" : Str)) = false := by decide) : JE X n W (.Name x pos) (M.pure (.glb x)) :=
  je_c (pe_glob (v := .ref a) hg hm rfl hd) fun _ _ => by simp only [Rel]; exact ⟨a, hm, rfl⟩
/-- a tuple of flat constants of the module -/
theorem je_gtup {x : Str} {a : Addr} {xs : List IV} (hm : X.mg x = some (.ref a)) (r : ∃ vs, SqT X.K (fun _ => none) a vs ∧ RelL (gx X) (fun _ => none) [] xs vs) (hg : Gl X x := by rfl) (hd : (x == ("__debug__" : Str)) = false := by decide) :
    JE X n W (.Name x pos) (M.pure (.tup xs)) := by
  obtain ⟨vs, h1, h2⟩ := r
  refine je_c (pe_glob (v := .ref a) hg hm rfl hd) fun F ρ => ?_
  simp only [Rel]
  exact ⟨a, vs, rfl, sqT_mono (fun _ _ z => by cases z) h1, h2.mono (fun _ _ z => by cases z) ⟨ρ, by simp⟩⟩
/-- a built-in type as a value -/
theorem je_ty {x : Str} {T : String} (hm : X.mg x = none) (hv : bootBuiltins x = some (.type T)) (hg : Gl X x := by rfl) (hn : x ≠ "__name__" := by decide) (hd : (x == ("__debug__" : Str)) = false := by decide) : JE X n W (.Name x pos) (M.pure (.ty T)) :=
  je_c (pe_bltn (v := .ty T) hg hm hv rfl hn hd) fun _ _ => by simp only [Rel]

/-! ### operators -/
/-- an operation on two values -/
def rJ (g : Gx) (f : IV → IV → Option IV) : R2 := fun x y H Q => ∃ F ρ cs xi yi z, Sim g F ρ cs H ∧ Rel g F ρ xi x ∧ Rel g F ρ yi y ∧ f xi yi = some z ∧ ∀ F' ρ' H' v, Stp F ρ H F' ρ' H' → Sim g F' ρ' cs H' → Rel g F' ρ' z v → Q v H'
def e2 (f : IV → IV → Option IV) (ma mb : M IV) : M IV := ma.bind fun x => mb.bind fun y => M.opt (f x y)
theorem je_two {t : R2 → TE → TE → TE} {f : IV → IV → Option IV} (ht : ∀ {σ H Q}, tG (gx X) n W (Rel (gx X)) ma σ H (fun x H1 => tG (gx X) n W (Rel (gx X)) mb σ H1 fun y H2 => rJ (gx X) f x y H2 Q) → t (rJ (gx X) f) (tG (gx X) n W (Rel (gx X)) ma) (tG (gx X) n W (Rel (gx X)) mb) σ H Q)
    (h : PE X e (t (rJ (gx X) f) (tG (gx X) n W (Rel (gx X)) ma) (tG (gx X) n W (Rel (gx X)) mb))) : JE X n W e (e2 f ma mb) := by
  refine pe_imp h fun σ H Q h => ht ?_
  obtain ⟨F, ρ, cs, σi, hs, hl, hp⟩ := h
  refine go hs hl hp fun x H1 F1 ρ1 cs1 xi st1 hs1 hl1 rx hp1 => ?_
  refine go hs1 hl1 hp1 fun y H2 F2 ρ2 cs2 yi st2 hs2 hl2 ry hp2 => ?_
  obtain ⟨z, q, hq⟩ := pst_opt (o := f xi yi) hp2
  exact ⟨F2, ρ2, cs2, xi, yi, z, hs2, rx.stp st2, ry, q, hq⟩
theorem je_op {op : Operator} {f : IV → IV → Option IV} (ho : OpR X (binaryOp op) (rJ (gx X) f)) (ha : JE X n W a ma) (hb : JE X n W b mb) : JE X n W (.BinOp a op b pos) (e2 f ma mb) :=
  je_two (t := tOp) (fun h => h) (pe_op ho ha hb)
theorem je_cmp {op : CmpOp} {f : IV → IV → Option IV} (ho : OpR X (compareOp op) (rJ (gx X) f)) (ha : JE X n W a ma) (hb : JE X n W b mb) (hm : behindInMarks op b = false) : JE X n W (.Compare a [op] [b] pos) (e2 f ma mb) :=
  je_two (t := tOp) (fun h => h) (pe_cmpR ho ha hb hm)

theorem relInt {g : Gx} {F : Hp} {ρ : List Addr} {i : Int} {x : V} (h : Rel g F ρ (.int i) x) : x = .int i := by simpa only [Rel] using h
theorem relStr {g : Gx} {F : Hp} {ρ : List Addr} {i : Str} {x : V} (h : Rel g F ρ (.str i) x) : x = .str i := by simpa only [Rel] using h
theorem relBl {g : Gx} {F : Hp} {ρ : List Addr} {i : Bool} {x : V} (h : Rel g F ρ (.bl i) x) : x = .bl i := by simpa only [Rel] using h
theorem relNon {g : Gx} {F : Hp} {ρ : List Addr} {x : V} (h : Rel g F ρ .non x) : x = .non := by simpa only [Rel] using h
theorem relTy {g : Gx} {F : Hp} {ρ : List Addr} {T : String} {x : V} (h : Rel g F ρ (.ty T) x) : x = .ty T := by simpa only [Rel] using h

def bAdd : IV → IV → Option IV
  | .int i, .int j => some (.int (i + j))
  | .str s, .str t => if s.length + t.length ≤ lim then some (.str (s ++ t)) else none
  | .tup xs, .tup ys => if xs.length + ys.length ≤ lim then some (.tup (xs ++ ys)) else none
  | .lst xs, .lst ys => if xs.length + ys.length ≤ lim then some (.lst (xs ++ ys)) else none
  | _, _ => none
theorem oj_add : OpR X (binaryOp .Add) (rJ (gx X) bAdd) := by
  intro pins s σ H x y v u Q I rx ry h
  obtain ⟨F, ρ, cs, xi, yi, z, hs, hx, hy, hf, q⟩ := h
  unfold bAdd at hf
  split at hf
  · cases hf
    rw [relInt hx] at rx; rw [relInt hy] at ry
    exact op_add pins s σ H _ _ v u Q I rx ry ⟨_, _, rfl, rfl, q F ρ H _ StpU.refl hs (by simp only [Rel])⟩
  · split at hf
    · rename_i hz
      cases hf
      rw [relStr hx] at rx; rw [relStr hy] at ry
      exact op_add_str pins s σ H _ _ v u Q I rx ry ⟨_, _, rfl, rfl, lim_le hz, q F ρ H _ StpU.refl hs (by simp only [Rel])⟩
    · cases hf
  · split at hf
    · rename_i xs ys hz
      cases hf
      simp only [Rel] at hx hy
      obtain ⟨a, vs, rfl, h1, r1⟩ := hx
      obtain ⟨b, ws, rfl, h2, r2⟩ := hy
      have l1 := r1.len
      have l2 := r2.len
      refine op_catA pins s σ H _ _ v u Q I rx ry ⟨a, b, vs, ws, rfl, rfl, sqT_mono hs.fz h1, sqT_mono hs.fz h2, lim_le (by omega), fun e => ?_, fun e e' => ?_, fun _ _ p hp => ?_⟩
      · subst e
        have : xs = [] := List.length_eq_zero_iff.mp l1
        subst this
        refine q F ρ H _ StpU.refl hs ?_
        simp only [Rel]
        exact ⟨b, ws, rfl, h2, by simpa using r2⟩
      · subst e'
        have : ys = [] := List.length_eq_zero_iff.mp l2
        subst this
        refine q F ρ H _ StpU.refl hs ?_
        simp only [Rel]
        exact ⟨a, vs, rfl, h1, by simpa using r1⟩
      · obtain ⟨hs', st⟩ := hs.new (o := .tup (vs ++ ws)) hp
        refine q _ ρ _ _ st hs' ?_
        simp only [Rel]
        exact ⟨p, vs ++ ws, rfl, .inl (.inl upd_same), (r1.append r2).stp st⟩
    · cases hf
  · split at hf
    · rename_i xs ys hz
      cases hf
      simp only [Rel] at hx hy
      obtain ⟨a, vs, rfl, h1, r1⟩ := hx
      obtain ⟨b, ws, rfl, h2, r2⟩ := hy
      have l1 := r1.len
      have l2 := r2.len
      refine op_cat pins s σ H _ _ v u Q I rx ry ⟨a, b, vs, ws, rfl, rfl, hs.fz _ _ h1, hs.fz _ _ h2, lim_le (by omega), fun p hp => ?_⟩
      obtain ⟨hs', st⟩ := hs.new (o := .lst (vs ++ ws)) hp
      refine q _ ρ _ _ st hs' ?_
      simp only [Rel]
      exact ⟨p, vs ++ ws, rfl, upd_same, (r1.append r2).stp st⟩
    · cases hf
  · cases hf
def bInt (f : Int → Int → Option IV) : IV → IV → Option IV
  | .int i, .int j => f i j
  | _, _ => none
theorem oj_int {op : Value → Value → Sem Value} {C : Int → Int → Prop} {h : Int → Int → V} {f : Int → Int → Option IV} (ho : OpR X op (rI C h)) (hf : ∀ i j z, f i j = some z → C i j ∧ ∀ F ρ, Rel (gx X) F ρ z (h i j)) : OpR X op (rJ (gx X) (bInt f)) := by
  intro pins s σ H x y v u Q I rx ry hh
  obtain ⟨F, ρ, cs, xi, yi, z, hs, hx, hy, hq, q⟩ := hh
  unfold bInt at hq
  split at hq
  · obtain ⟨h1, h2⟩ := hf _ _ _ hq
    rw [relInt hx] at rx; rw [relInt hy] at ry
    exact ho pins s σ H _ _ v u Q I rx ry ⟨_, _, rfl, rfl, h1, q F ρ H _ StpU.refl hs (h2 F ρ)⟩
  · cases hq
theorem oj_int0 {op : Value → Value → Sem Value} {h : Int → Int → V} {f : Int → Int → Option IV} (ho : OpR X op (rI0 h)) (hf : ∀ i j z, f i j = some z → ∀ F ρ, Rel (gx X) F ρ z (h i j)) : OpR X op (rJ (gx X) (bInt f)) := by
  intro pins s σ H x y v u Q I rx ry hh
  obtain ⟨F, ρ, cs, xi, yi, z, hs, hx, hy, hq, q⟩ := hh
  unfold bInt at hq
  split at hq
  · have h2 := hf _ _ _ hq
    rw [relInt hx] at rx; rw [relInt hy] at ry
    exact ho pins s σ H _ _ v u Q I rx ry ⟨_, _, rfl, rfl, q F ρ H _ StpU.refl hs (h2 F ρ)⟩
  · cases hq
def bSub : IV → IV → Option IV := bInt fun i j => some (.int (i - j))
theorem oj_sub : OpR X (binaryOp .Sub) (rJ (gx X) bSub) := oj_int0 op_sub fun i j z h F ρ => by cases h; simp only [Rel]
def bMod : IV → IV → Option IV := bInt fun i j => if j ≠ 0 then some (.int (i.fmod j)) else none
theorem oj_mod : OpR X (binaryOp .Mod) (rJ (gx X) bMod) := oj_int op_modN fun i j z h => by
  split at h
  · rename_i hj; cases h; exact ⟨hj, fun F ρ => by simp only [Rel]⟩
  · cases h
theorem op_fdivA : OpR X (binaryOp .FloorDiv) (rI (fun _ j => j ≠ 0 ∧ j.natAbs.log2 < 9000) fun i j => .int (i.fdiv j)) := opI fun i j _ _ _ _ _ hc q => floordiv_int hc.1 q (.inl (PyProof.noPylong_of_log2 hc.2))
def bFdiv : IV → IV → Option IV := bInt fun i j => if j ≠ 0 ∧ j.natAbs.log2 < 9000 then some (.int (i.fdiv j)) else none
theorem oj_fdiv : OpR X (binaryOp .FloorDiv) (rJ (gx X) bFdiv) := oj_int op_fdivA fun i j z h => by
  split at h
  · rename_i hj; cases h; exact ⟨hj, fun F ρ => by simp only [Rel]⟩
  · cases h
def bPow : IV → IV → Option IV := bInt fun i j => if 0 ≤ j ∧ j ≤ 1000000 ∧ i.natAbs < 2 ^ 64 then some (.int (i ^ j.toNat)) else none
theorem oj_pow : OpR X (binaryOp .Pow) (rJ (gx X) bPow) := oj_int op_pow fun i j z h => by
  split at h
  · rename_i hj; cases h; exact ⟨hj, fun F ρ => by simp only [Rel]⟩
  · cases h
def repL {α : Type} (k : Nat) (xs : List α) : List α := (List.replicate k xs).flatten
theorem RelL.rep {g : Gx} {F : Hp} {ρ : List Addr} {xs : List IV} {vs : List V} (r : RelL g F ρ xs vs) : ∀ k : Nat, RelL g F ρ (repL k xs) (repL k vs)
  | 0 => by simp only [repL, List.replicate_zero, List.flatten_nil]; exact .nil
  | k + 1 => by
    have := RelL.rep r k
    simp only [repL, List.replicate_succ, List.flatten_cons] at this ⊢
    exact r.append this
def bMul : IV → IV → Option IV
  | .int i, .int j => if i.natAbs.log2 + j.natAbs.log2 < 1000000 then some (.int (i * j)) else none
  | .lst xs, .int k => if -(2 ^ 63) ≤ k ∧ k < 2 ^ 63 ∧ xs.length * k.toNat ≤ lim then some (.lst (repL k.toNat xs)) else none
  | .tup xs, .int k => if xs.isEmpty = false ∧ 2 ≤ k ∧ k ≤ 1000 ∧ xs.length ≤ 1000 then some (.tup (repL k.toNat xs)) else none
  | _, _ => none
theorem oj_mul : OpR X (binaryOp .Mult) (rJ (gx X) bMul) := by
  intro pins s σ H x y v u Q I rx ry hh
  obtain ⟨F, ρ, cs, xi, yi, z, hs, hx, hy, hq, q⟩ := hh
  unfold bMul at hq
  split at hq
  · split at hq
    · rename_i hz
      cases hq
      rw [relInt hx] at rx; rw [relInt hy] at ry
      exact op_mulW pins s σ H _ _ v u Q I rx ry ⟨_, _, rfl, rfl, hz, q F ρ H _ StpU.refl hs (by simp only [Rel])⟩
    · cases hq
  · split at hq
    · rename_i xs k hz
      cases hq
      simp only [Rel] at hx
      obtain ⟨a, vs, rfl, h1, r1⟩ := hx
      rw [relInt hy] at ry
      refine op_rep pins s σ H _ _ v u Q I rx ry ⟨a, k, vs, rfl, rfl, hs.fz _ _ h1, hz.1, hz.2.1, lim_le (by rw [← r1.len]; exact hz.2.2), fun p hp => ?_⟩
      obtain ⟨hs', st⟩ := hs.new (o := .lst (repL k.toNat vs)) hp
      refine q _ ρ _ _ st hs' ?_
      simp only [Rel]
      exact ⟨p, _, rfl, upd_same, (r1.rep k.toNat).stp st⟩
    · cases hq
  · split at hq
    · rename_i xs k hz
      cases hq
      simp only [Rel] at hx
      obtain ⟨a, vs, rfl, h1, r1⟩ := hx
      rw [relInt hy] at ry
      refine op_repT pins s σ H _ _ v u Q I rx ry ⟨a, k, vs, rfl, rfl, sqT_mono hs.fz h1, fun z => ?_, hz.2.1, hz.2.2.1, by rw [← r1.len]; exact hz.2.2.2, fun p hp => ?_⟩
      · have := r1.len
        rw [z] at this
        have := List.eq_nil_of_length_eq_zero this
        rw [this] at hz
        cases hz.1
      · obtain ⟨hs', st⟩ := hs.new (o := .tup (repL k.toNat vs)) hp
        refine q _ ρ _ _ st hs' ?_
        simp only [Rel]
        exact ⟨p, _, rfl, .inl (.inl upd_same), (r1.rep k.toNat).stp st⟩
    · cases hq
  · cases hq

/-! ### comparisons -/
def cLt : IV → IV → Option IV := bInt fun i j => some (.bl (decide (i < j)))
def cLe : IV → IV → Option IV := bInt fun i j => some (.bl (decide (i ≤ j)))
def cGt : IV → IV → Option IV := bInt fun i j => some (.bl (decide (j < i)))
def cGe : IV → IV → Option IV := bInt fun i j => some (.bl (decide (j ≤ i)))
theorem oj_lt : OpR X (compareOp .Lt) (rJ (gx X) cLt) := oj_int0 op_lt fun i j z h F ρ => by cases h; simp only [Rel]
theorem oj_le : OpR X (compareOp .LtE) (rJ (gx X) cLe) := oj_int0 op_le fun i j z h F ρ => by cases h; simp only [Rel]
theorem oj_gt : OpR X (compareOp .Gt) (rJ (gx X) cGt) := oj_int0 op_gt fun i j z h F ρ => by cases h; simp only [Rel]
theorem oj_ge : OpR X (compareOp .GtE) (rJ (gx X) cGe) := oj_int0 op_ge fun i j z h F ρ => by cases h; simp only [Rel]
end
end SL

set_option Elab.async false
set_option linter.all false
set_option autoImplicit false
set_option maxRecDepth 100000
set_option maxHeartbeats 4000000
/-! SLDs: values that have their text: lists may stand beside dicts. -/
namespace SL
open PySem
section
variable (P : Program) (w : World) (h : Heap)
/-- v is d there, and repr(v) its text -/
structure Txt (v : Value) (d : PyData) : Prop where
  rd : ∃ l, Reads h v d l
  tx : d.showable = true → d.shown.length ≤ sizeLine → ∃ l, ReadAtMost h d.depth l ∧ ReprK P w l h d.depth v d.shown
  top : d.showable = true → d.shown.length ≤ sizeLine → ∀ (A : Around) (E : Value → Shared → Prop) (s : Shared) (Q : Value → Shared → Prop), s.heap = h → A.guards = some [] → A.units + (d.depth + 1) < cLine →
    (∀ g u k, (∀ b o, h.get? b = some o → g.get? b = some o) → Q (.str d.shown u) { s with heap := g, toks := k }) → wpAny (model P w) A (call (.builtin "repr") [v]) Q E s
structure TxtL (vs : List Value) (ds : List PyData) : Prop where
  rd : ∃ l, ReadsAll h vs ds l
  tx : PyData.showableAll ds = true → (∀ t ∈ PyData.shownAll ds, t.length ≤ sizeLine) → ∃ l, ReadAtMost h (PyData.depthAll ds) l ∧ ReprAllK P w l h (PyData.depthAll ds) vs (PyData.shownAll ds)
end
section
variable {P : Program} {w : World} {h : Heap}
theorem most_nil {k : Nat} : ReadAtMost h k [] := fun _ z => nomatch z
theorem txt_non : Txt P w h .none .none := by
  refine ⟨⟨_, .none⟩, fun _ _ => ⟨[], most_nil, ?_⟩, fun _ _ A E s Q e _ _ q => PySem.P.repr_of_none ?_⟩
  · rw [PyData.shown]
    exact ReprK.of_is .none [] h _
  · subst e
    have := q s.heap s.toks (s.toks + 1) fun _ _ z => z
    rwa [PyData.shown] at this
theorem txt_bool (b : Bool) : Txt P w h (.bool b) (.bool b) := by
  refine ⟨⟨_, .bool b⟩, fun _ _ => ⟨[], most_nil, ?_⟩, fun _ _ A E s Q e _ _ q => PySem.P.repr_of_bool ?_⟩
  · rw [PyData.shown]
    exact ReprK.of_is (.bool b) [] h _
  · subst e
    have := q s.heap s.toks (s.toks + 1) fun _ _ z => z
    rwa [PyData.shown] at this
theorem txt_int (i : Int) (t : Tok) : Txt P w h (.int i t) (.int i) := by
  have hl : (PyData.int i).showable = true → i.natAbs.log2 < 1920 := fun z => by simpa [PyData.showable] using z
  refine ⟨⟨_, .int i t⟩, fun z _ => ⟨[], most_nil, ?_⟩, fun z _ A E s Q e _ _ q => PySem.P.repr_of_int (hl z) ?_⟩
  · rw [PyData.shown]
    exact ReprK.of_is (.int t (hl z)) [] h _
  · subst e
    have := q s.heap s.toks (s.toks + 1) fun _ _ z => z
    rwa [PyData.shown] at this
theorem txt_str (x : Str) (t : Tok) : Txt P w h (.str x t) (.str x) := by
  have hl : (PyData.str x).shown.length ≤ sizeLine → (reprText x).length ≤ sizeLine := fun z => by rwa [PyData.shown] at z
  refine ⟨⟨_, .str x t⟩, fun _ z => ⟨[], most_nil, ?_⟩, fun _ z A E s Q e _ _ q => PySem.P.repr_of_str ?_ (hl z)⟩
  · rw [PyData.shown]
    exact ReprK.of_is (.str x t (hl z)) [] h _
  · subst e
    have := q s.heap s.toks (s.toks + 1) fun _ _ z => z
    rwa [PyData.shown] at this
theorem txtL_nil : TxtL P w h [] [] := ⟨⟨_, .nil⟩, fun _ _ => ⟨[], most_nil, by rw [PyData.shownAll]; exact .nil⟩⟩
theorem txtL_cons {v : Value} {vs : List Value} {d : PyData} {ds : List PyData} (t : Txt P w h v d) (r : TxtL P w h vs ds) : TxtL P w h (v :: vs) (d :: ds) := by
  obtain ⟨l1, r1⟩ := t.rd
  obtain ⟨l2, r2⟩ := r.rd
  refine ⟨⟨_, .cons r1 r2⟩, fun hs hz => ?_⟩
  simp only [PyData.showableAll, Bool.and_eq_true] at hs
  simp only [PyData.shownAll, List.mem_cons, forall_eq_or_imp] at hz
  obtain ⟨m1, a1, k1⟩ := t.tx hs.1 hz.1
  obtain ⟨m2, a2, k2⟩ := r.tx hs.2 hz.2
  simp only [PyData.depthAll, PyData.shownAll]
  have u1 : d.depth ≤ max d.depth (PyData.depthAll ds) := by omega
  have u2 : PyData.depthAll ds ≤ max d.depth (PyData.depthAll ds) := by omega
  exact ⟨m1 ++ m2, (a1.mono u1).append (a2.mono u2), .cons ((k1.level_le u1).more fun _ z => List.mem_append.mpr (.inl z)) (k2.more_le (fun _ z => List.mem_append.mpr (.inr z)) u2)⟩
section
variable {a : Addr} {o : Obj} {vs : Array Value} {n : Nat} {ds : List PyData}
theorem txt_lst (ho : h.get? a = some o) (hc : o.cls = .type "list") (hd : o.data = .seq vs n) (r : TxtL P w h vs.toList ds) : Txt P w h (.ref a) (.list ds) := by
  obtain ⟨l, rl⟩ := r.rd
  have R : Reads h (.ref a) (.list ds) (a :: l) := .list ho hc hd rl
  have hdp : (PyData.list ds).depth = PyData.depthAll ds + 1 := by rw [PyData.depth]
  have hsh : (PyData.list ds).shown = listText (PyData.shownAll ds) := by rw [PyData.shown]
  have key : (PyData.list ds).showable = true → (PyData.list ds).shown.length ≤ sizeLine → ∃ m, ReadAtMost h (PyData.depthAll ds) m ∧ a ∉ m ∧ ReprAllK P w m h (PyData.depthAll ds) vs.toList (PyData.shownAll ds) := fun z1 z2 => by
    obtain ⟨m, a1, k1⟩ := r.tx (by rwa [PyData.showable] at z1) fun t ht => by
      rw [hsh] at z2
      have := listText_mem_le ht
      omega
    exact ⟨m, a1, not_mem_of_deeper R (by omega) a1, k1⟩
  obtain ⟨its⟩ := vs
  refine ⟨⟨_, R⟩, fun z1 z2 => ?_, fun z1 z2 A E s Q e hg hu q => ?_⟩
  · obtain ⟨m, a1, nm, k1⟩ := key z1 z2
    refine ⟨a :: m, .cons R (by omega) a1, ?_⟩
    rw [hsh, hdp]
    cases its with
    | nil =>
      cases rl
      rw [PyData.shownAll, listText_nil]
      exact .listEmpty ho hc hd
    | cons x y =>
      have k2 : ReprAllK P w m h (PyData.depthAll ds) (x :: y) (PyData.shownAll ds) := k1
      exact .list ho hc hd nm (by simpa using k2.length_eq) fun i y ei => k2.item i y (by simpa using ei)
  · subst e
    obtain ⟨m, a1, nm, k1⟩ := key z1 z2
    rw [hsh] at q z2
    rw [hdp] at hu
    refine call_repr_slot (by omega) ⟨o, ho, hc⟩ F.slot_list_repr.toG ?_
    cases its with
    | nil =>
      cases rl
      rw [PyData.shownAll, listText_nil] at q
      exact call_list_repr_empty ⟨o, ho, hc⟩ ho hd ⟨_, _, rfl, q s.heap _ _ fun _ _ z => z⟩
    | cons x y =>
      have k2 : ReprAllK P w m s.heap (PyData.depthAll ds) (x :: y) (PyData.shownAll ds) := k1
      refine call_list_reprK (A := A.in1) ho hc hd nm (by simpa using k2.length_eq) (fun i y ei => k2.item i y (by simpa using ei)) (g := []) hg (fun _ _ => Clear.nil _) ?_ (fun _ _ z => z) (fun g u k hk => ⟨_, _, rfl, q g u k hk⟩) z2
      show A.units + 1 + (_ + 1) < cLine
      omega
theorem txt_tup (ho : h.get? a = some o) (hc : o.cls = .type "tuple") (hd : o.data = .seq vs n) (r : TxtL P w h vs.toList ds) : Txt P w h (.ref a) (.tuple ds) := by
  obtain ⟨l, rl⟩ := r.rd
  have R : Reads h (.ref a) (.tuple ds) l := .tuple ho hc hd rl
  have hdp : (PyData.tuple ds).depth = PyData.depthAll ds + 1 := by rw [PyData.depth]
  have hsh : (PyData.tuple ds).shown = tupleText (PyData.shownAll ds) := by rw [PyData.shown]
  have key : (PyData.tuple ds).showable = true → (PyData.tuple ds).shown.length ≤ sizeLine → ∃ m, ReadAtMost h (PyData.depthAll ds) m ∧ a ∉ m ∧ ReprAllK P w m h (PyData.depthAll ds) vs.toList (PyData.shownAll ds) := fun z1 z2 => by
    obtain ⟨m, a1, k1⟩ := r.tx (by rwa [PyData.showable] at z1) fun t ht => by
      rw [hsh] at z2
      have := tupleText_mem_le ht
      omega
    exact ⟨m, a1, not_mem_of_deeper R (by omega) a1, k1⟩
  refine ⟨⟨_, R⟩, fun z1 z2 => ?_, fun z1 z2 A E s Q e hg hu q => ?_⟩
  · obtain ⟨m, a1, nm, k1⟩ := key z1 z2
    rw [hsh, hdp]
    exact ⟨a :: m, by have := ReadAtMost.cons R (by omega) a1; rwa [hdp] at this, .tuple ho hc hd nm k1⟩
  · subst e
    obtain ⟨m, a1, nm, k1⟩ := key z1 z2
    rw [hsh] at q z2
    rw [hdp] at hu
    refine call_repr_slot (by omega) ⟨o, ho, hc⟩ F.slot_tuple_repr (call_tuple_reprK (A := A.in1) ho hc hd nm k1 (g := []) hg (fun _ _ => Clear.nil _) ?_ (fun _ _ z => z) (fun g u k hk => ⟨_, _, rfl, q g u k hk⟩) z2)
    show A.units + 1 + (_ + 1) < cLine
    omega
end
theorem txt_dct {a : Addr} {o : Obj} {es : Array DictEntry} {n : Nat} {kvs : List (PyData × PyData)} (ho : h.get? a = some o) (hc : o.cls = .type "dict") (hd : o.data = .dict es n) (hy : (a == sysModules) = false)
    (r1 : TxtL P w h (es.toList.map (·.key)) (kvs.map (·.1))) (r2 : TxtL P w h (es.toList.map (·.val)) (kvs.map (·.2))) : Txt P w h (.ref a) (.dict kvs) := by
  obtain ⟨l1, q1⟩ := r1.rd
  obtain ⟨l2, q2⟩ := r2.rd
  have R : Reads h (.ref a) (.dict kvs) (a :: l1 ++ l2) := .dict ho hc hd q1 q2
  have hdp : (PyData.dict kvs).depth = PyData.depthKv kvs + 1 := by rw [PyData.depth]
  have hsh : (PyData.dict kvs).shown = dictText (PyData.shownKv kvs) := by rw [PyData.shown]
  have d1 := PyData.depthAll_keys_le kvs
  have d2 := PyData.depthAll_vals_le kvs
  have key : (PyData.dict kvs).showable = true → (PyData.dict kvs).shown.length ≤ sizeLine → ∃ m, ReadAtMost h (PyData.depthKv kvs) m ∧ a ∉ m ∧ ReprEntriesK P w m h (PyData.depthKv kvs) es.toList (PyData.shownKv kvs) := fun z1 z2 => by
    rw [PyData.showable] at z1
    rw [hsh] at z2
    obtain ⟨s1, s2⟩ := PyData.showableKv_split kvs z1
    obtain ⟨m1, a1, k1⟩ := r1.tx s1 fun t ht => by
      obtain ⟨p, hp, hl⟩ := PyData.shownKv_key_le kvs t ht
      have := dictText_mem_le hp
      omega
    obtain ⟨m2, a2, k2⟩ := r2.tx s2 fun t ht => by
      obtain ⟨p, hp, hl⟩ := PyData.shownKv_val_le kvs t ht
      have := dictText_mem_le hp
      omega
    have am := (a1.mono d1).append (a2.mono d2)
    refine ⟨m1 ++ m2, am, not_mem_of_deeper R (by omega) am, ?_⟩
    rw [PyData.shownKv_eq]
    exact .of_two es.toList _ _ (k1.more_le (fun _ z => List.mem_append.mpr (.inl z)) d1) (k2.more_le (fun _ z => List.mem_append.mpr (.inr z)) d2)
  refine ⟨⟨_, R⟩, fun z1 z2 => ?_, fun z1 z2 A E s Q e hg hu q => ?_⟩
  · obtain ⟨m, a1, nm, k1⟩ := key z1 z2
    rw [hsh, hdp]
    exact ⟨a :: m, by have := ReadAtMost.cons R (by omega) a1; rwa [hdp] at this, .dict ho hc hd hy nm k1⟩
  · subst e
    obtain ⟨m, a1, nm, k1⟩ := key z1 z2
    rw [hsh] at q z2
    rw [hdp] at hu
    refine call_repr_slot (by omega) ⟨o, ho, hc⟩ F.slot_dict_repr (call_dict_reprK (A := A.in1) ho hc hd hy nm k1 (g := []) hg (fun _ _ => Clear.nil _) ?_ (fun _ _ z => z) (fun g u k hk => ⟨_, _, rfl, q g u k hk⟩) z2)
    show A.units + 1 + (_ + 1) < cLine
    omega
end
end SL

set_option Elab.async false
set_option linter.all false
set_option autoImplicit false
set_option maxRecDepth 100000
set_option maxHeartbeats 4000000
/-! SLData: plain data: == and repr. -/
namespace SL
open PySem PySem.Spec L2
open PyProof.Rows hiding St

def keyPy : Key → PyData
  | .inl i => .int i
  | .inr s => .str s
mutual
/-- a value as the library's data -/
def toPy : IV → Option PyData
  | .non => some .none
  | .bl b => some (.bool b)
  | .int i => some (.int i)
  | .str s => some (.str s)
  | .tup xs => (toPyL xs).map .tuple
  | .lst xs => (toPyL xs).map .list
  | .rol xs => (toPyL xs).map .list
  | .dct ks xs => (toPyL xs).map fun ds => .dict ((ks.map keyPy).zip ds)
  | _ => none
def toPyL : List IV → Option (List PyData)
  | [] => some []
  | x :: xs => match toPy x, toPyL xs with
    | some d, some ds => some (d :: ds)
    | _, _ => none
end
mutual
def noLst : IV → Bool
  | .tup xs => noLstL xs
  | .lst _ => false
  | .rol _ => false
  | .dct _ xs => noLstL xs
  | _ => true
def noLstL : List IV → Bool
  | [] => true
  | x :: xs => noLst x && noLstL xs
end

theorem keys_read {h : Heap} {P : Program} {w : World} : ∀ {es : List DictEntry} {kvs : List (Key × Value)}, Pairs (mixKind P w) es kvs → TxtL P w h (es.map (·.key)) (kvs.map fun p => keyPy p.1)
  | _, _, .nil => txtL_nil
  | e :: es, (k, v) :: kvs, .cons hk _ t => by
    have r := keys_read (h := h) t
    have hk' : keyIs k e.key = true := hk
    rw [List.map_cons, List.map_cons]
    rcases keyIs_shape hk' with ⟨i, tt, ek, ev⟩ | ⟨s, tt, ek, ev⟩
    · rw [ev]
      have ek' : k = Sum.inl i := ek
      subst ek'
      exact txtL_cons (txt_int i tt) r
    · rw [ev]
      have ek' : k = Sum.inr s := ek
      subst ek'
      exact txtL_cons (txt_str s tt) r
theorem vals_read {P : Program} {w : World} : ∀ {es : List DictEntry} {kvs : List (Key × Value)}, Pairs (mixKind P w) es kvs → es.map (·.val) = kvs.map (·.2)
  | _, _, .nil => rfl
  | e :: es, (k, v) :: kvs, .cons _ hv t => by
    rw [List.map_cons, List.map_cons, vals_read t, hv]
theorem kv_vals : ∀ {ks : List Key} {vs : List V} {us : List (Key × Value)}, ks.length = vs.length → KV (ks.zip vs) us → us.map (·.1) = ks ∧ Vals vs (us.map (·.2))
  | [], [], us, _, h => by
    cases h
    exact ⟨rfl, .nil⟩
  | [], _ :: _, _, e, _ => by cases e
  | _ :: _, [], _, e, _ => by cases e
  | k :: ks, v :: vs, us, e, h => by
    rw [List.zip_cons_cons] at h
    cases h with
    | @cons a b l1 l2 hd tl =>
      obtain ⟨h1, h2⟩ := hd
      obtain ⟨q1, q2⟩ := kv_vals (Nat.succ.inj e) tl
      exact ⟨by rw [List.map_cons, q1]; exact congrArg (· :: ks) h1.symm, .cons h2 q2⟩

section
variable {X : Cx} {pins : List (Addr × Obj)} {σ : St} {H : Hp} {s : Shared} {F : Hp} {ρ : List Addr}
mutual
theorem Rel.reads (I : Inv X pins σ H s) (hf : ∀ a o, F a = some o → H a = some o) : ∀ (x : IV) {v : V} {u : Value} {d : PyData}, Rel (gx X) F ρ x v → RelV v u → toPy x = some d →
    Txt X.prog X.w s.heap u d
  | .non, v, u, d, h, r, e => by
    simp only [toPy, Option.some.injEq] at e
    subst e
    rw [relNon h] at r
    cases r
    exact txt_non
  | .bl b, v, u, d, h, r, e => by
    simp only [toPy, Option.some.injEq] at e
    subst e
    rw [relBl h] at r
    cases r
    exact txt_bool b
  | .int i, v, u, d, h, r, e => by
    simp only [toPy, Option.some.injEq] at e
    subst e
    rw [relInt h] at r
    obtain ⟨t, rfl⟩ := r
    exact txt_int i t
  | .str i, v, u, d, h, r, e => by
    simp only [toPy, Option.some.injEq] at e
    subst e
    rw [relStr h] at r
    obtain ⟨t, rfl⟩ := r
    exact txt_str i t
  | .tup xs, v, u, d, h, r, e => by
    simp only [toPy, Option.map_eq_some_iff] at e
    obtain ⟨ds, e1, rfl⟩ := e
    simp only [Rel] at h
    obtain ⟨a, vs, rfl, h1, h2⟩ := h
    cases r
    obtain ⟨its, rv, ⟨o, ho, hc, n, hd⟩, _⟩ := I.tuple (sqT_mono hf h1)
    exact txt_tup ho hc hd (RelL.reads I hf xs h2 rv e1)
  | .lst xs, v, u, d, h, r, e => by
    simp only [toPy, Option.map_eq_some_iff] at e
    obtain ⟨ds, e1, rfl⟩ := e
    simp only [Rel] at h
    obtain ⟨a, vs, rfl, h1, h2⟩ := h
    cases r
    obtain ⟨its, rv, ⟨o, n, ho, hc, _, hd⟩, _⟩ := I.list (.inl (.inl (hf _ _ h1)))
    exact txt_lst ho hc hd (RelL.reads I hf xs h2 rv e1)
  | .rol xs, v, u, d, h, r, e => by
    simp only [toPy, Option.map_eq_some_iff] at e
    obtain ⟨ds, e1, rfl⟩ := e
    simp only [Rel] at h
    obtain ⟨a, vs, rfl, h1, h2⟩ := h
    cases r
    obtain ⟨its, rv, ⟨o, n, ho, hc, _, hd⟩, _⟩ := I.list (sqL_mono hf h1)
    exact txt_lst ho hc hd (RelL.reads I hf xs h2 rv e1)
  | .dct ks xs, v, u, d, h, r, e => by
    simp only [toPy, Option.map_eq_some_iff] at e
    obtain ⟨ds, e1, rfl⟩ := e
    simp only [Rel] at h
    obtain ⟨a, vs, rfl, hl, h1, h2⟩ := h
    cases r
    obtain ⟨fo, h1⟩ := h1
    obtain ⟨_, hsys, us, kv, o, es, ep, ho, hx, hd, _, hp, _⟩ := (I.hok a _ (hf _ _ h1)).2
    obtain ⟨q1, q2⟩ := kv_vals hl kv
    have hr := RelL.reads I hf xs h2 q2 e1
    have l1 := h2.len
    have l2 : ds.length = xs.length := by
      have := toPyL_len xs e1
      exact this
    have ek := keys_read (h := s.heap) hp
    have ev := vals_read hp
    have e2 : (us.map fun p => keyPy p.1) = ((ks.map keyPy).zip ds).map (·.1) := by
      rw [show (us.map fun p => keyPy p.1) = (us.map (·.1)).map keyPy by rw [List.map_map]; rfl, q1, List.map_fst_zip]
      rw [List.length_map]; omega
    have e3 : ((ks.map keyPy).zip ds).map (·.2) = ds := by
      rw [List.map_snd_zip]
      rw [List.length_map]; omega
    rw [e2] at ek
    have hr' : TxtL X.prog X.w s.heap (es.toList.map (·.val)) (((ks.map keyPy).zip ds).map (·.2)) := by rw [ev, e3]; exact hr
    have hcl : o.cls = .type "dict" := hx.1
    exact txt_dct ho hcl hd hsys ek hr'
  | .ty _, _, _, _, _, _, e => by simp only [toPy] at e; cases e
  | .glb _, _, _, _, _, _, e => by simp only [toPy] at e; cases e
  | .cell _, _, _, _, _, _, e => by simp only [toPy] at e; cases e
  | .obj _ _ _, _, _, _, _, _, e => by simp only [toPy] at e; cases e
theorem RelL.reads (I : Inv X pins σ H s) (hf : ∀ a o, F a = some o → H a = some o) : ∀ (xs : List IV) {vs : List V} {us : List Value} {ds : List PyData}, RelL (gx X) F ρ xs vs → Vals vs us → toPyL xs = some ds →
    TxtL X.prog X.w s.heap us ds
  | [], vs, us, ds, h, r, e => by
    simp only [toPyL, Option.some.injEq] at e
    subst e
    simp only [RelL] at h
    subst h
    cases r
    exact txtL_nil
  | x :: xs, vs, us, ds, h, r, e => by
    simp only [RelL] at h
    obtain ⟨v, rr, rfl, h1, h2⟩ := h
    cases r with
    | cons r1 r2 =>
      simp only [toPyL] at e
      split at e
      · rename_i d ds' e1 e2
        cases e
        exact txtL_cons (Rel.reads I hf x h1 r1 e1) (RelL.reads I hf xs h2 r2 e2)
      · cases e
theorem toPyL_len : ∀ (xs : List IV) {ds : List PyData}, toPyL xs = some ds → ds.length = xs.length
  | [], ds, e => by simp only [toPyL, Option.some.injEq] at e; subst e; rfl
  | x :: xs, ds, e => by
    simp only [toPyL] at e
    split at e
    · rename_i d ds' e1 e2
      cases e
      rw [List.length_cons, List.length_cons, toPyL_len xs e2]
    · cases e
end
end

section
variable {X : Cx}
/-- x == y of plain data without dicts; of flat ones; of any sequence and an empty one -/
def cEqG (x y : IV) : Option Bool := match toPy x, toPy y with
  | some d, some e => if SeqAt.shaped d = true ∧ SeqAt.shaped e = true then some (PyData.eqv d e) else none
  | _, _ => none
def cEqD (x y : IV) : Option Bool := match x, y with
  | .int i, .int j => some (decide (i = j))
  | .str a, .str b => some (decide (a = b))
  | .tup xs, .tup [] => some xs.isEmpty
  | .lst xs, .lst [] => some xs.isEmpty
  | .rol xs, .lst [] => some xs.isEmpty
  | x, y => cEqG x y
theorem cEqG_some {x y : IV} {b : Bool} (h : cEqG x y = some b) : ∃ d e, toPy x = some d ∧ toPy y = some e ∧ SeqAt.shaped d = true ∧ SeqAt.shaped e = true ∧ b = PyData.eqv d e := by
  unfold cEqG at h
  split at h
  · rename_i d e h1 h2
    split at h
    · rename_i hh
      cases h
      exact ⟨d, e, h1, h2, hh.1, hh.2, rfl⟩
    · cases h
  · cases h
theorem relTup {g : Gx} {F : Hp} {ρ : List Addr} {xs : List IV} {x : V} (h : Rel g F ρ (.tup xs) x) : ∃ a vs, x = .ref a ∧ SqT g.K F a vs ∧ RelL g F ρ xs vs := by simpa only [Rel] using h
theorem relLst {g : Gx} {F : Hp} {ρ : List Addr} {xs : List IV} {x : V} (h : Rel g F ρ (.lst xs) x) : ∃ a vs, x = .ref a ∧ SqL g.K F a vs ∧ RelL g F ρ xs vs := by
  simp only [Rel] at h
  obtain ⟨a, vs, e, h1, h2⟩ := h
  exact ⟨a, vs, e, .inl (.inl h1), h2⟩
theorem relRol {g : Gx} {F : Hp} {ρ : List Addr} {xs : List IV} {x : V} (h : Rel g F ρ (.rol xs) x) : ∃ a vs, x = .ref a ∧ SqL g.K F a vs ∧ RelL g F ρ xs vs := by simpa only [Rel] using h
def cEq (x y : IV) : Option IV := (cEqD x y).map .bl
def cNe (x y : IV) : Option IV := (cEqD x y).map fun b => .bl (!b)
theorem str_eqv (a b : Str) : PyData.eqv (.str a) (.str b) = decide (a = b) := by
  show (a == b) = _
  by_cases e : a = b
  · subst e; simp
  · simp [e]
section
variable {pins : List (Addr × Obj)} {σ : St} {H : Hp} {s : Shared} {F : Hp} {ρ : List Addr}
theorem eq_same (I : Inv X pins σ H s) (hf : ∀ a o, F a = some o → H a = some o) (hu : X.A.units + 64 < cLine) {xi yi : IV} {x y : V} {v u : Value} {b : Bool} (hx : Rel (gx X) F ρ xi x) (hy : Rel (gx X) F ρ yi y) (rx : RelV x v) (ry : RelV y u) (h : cEqD xi yi = some b) :
    SeqAt.RcAt X.A s v u b ∧ SeqAt.RcNeAt X.A s v u (!b) := by
  have gen : ∀ {b}, cEqG xi yi = some b → SeqAt.RcAt X.A s v u b ∧ SeqAt.RcNeAt X.A s v u (!b) := fun {b} h => by
    obtain ⟨d, e, h1, h2, s1, s2, rfl⟩ := cEqG_some h
    obtain ⟨as, r1⟩ := (Rel.reads I hf xi hx rx h1).rd
    obtain ⟨bs, r2⟩ := (Rel.reads I hf yi hy ry h2).rd
    exact ⟨fun prog w E Q q => SeqAt.compareEq_shaped r1 r2 s1 s2 hu q, fun prog w E Q q => SeqAt.compareNe_shaped r1 r2 s1 s2 hu q⟩
  have lists : ∀ {a b : Addr} {vs : List V} {xs : List IV}, SqL X.K H a vs → SqL X.K H b [] → xs.length = vs.length → SeqAt.RcAt X.A s (.ref a) (.ref b) xs.isEmpty ∧ SeqAt.RcNeAt X.A s (.ref a) (.ref b) (!xs.isEmpty) := fun {a b vs xs} h1 h2 hl => by
    obtain ⟨its, r1, p1, _⟩ := I.list h1
    obtain ⟨its2, r2, p2, _⟩ := I.list h2
    cases r2
    have l1 := r1.length
    cases xs with
    | nil =>
      have e0 : its = [] := List.length_eq_zero_iff.mp (by rw [← l1]; exact hl.symm)
      subst e0
      exact ⟨SeqAt.RcAt.lists (e := fun _ => true) p1.isList p2.isList rfl (by omega) (fun j h => absurd h (by simp)), SeqAt.RcNeAt.lists (e := fun _ => true) p1.isList p2.isList rfl (by omega) (fun j h => absurd h (by simp))⟩
    | cons z zs =>
      have hne : ((its.toArray.size != ([] : List Value).toArray.size) = true) := by
        cases its with
        | nil =>
          rw [← hl] at l1
          simp at l1
        | cons q qs => simp
      exact ⟨SeqAt.RcAt.lists_lengths p1.isList p2.isList hne (by omega), SeqAt.RcNeAt.lists_lengths p1.isList p2.isList hne (by omega)⟩
  unfold cEqD at h
  split at h
  · rename_i i j
    cases h
    rw [relInt hx] at rx
    rw [relInt hy] at ry
    obtain ⟨t, rfl⟩ := rx
    obtain ⟨t', rfl⟩ := ry
    have e : decide (i = j) = (i == j) := by rw [Bool.beq_eq_decide_eq]
    rw [e]
    exact ⟨SeqAt.RcAt.int_int i t j t', SeqAt.RcNeAt.int_int i t j t'⟩
  · rename_i a b
    cases h
    rw [relStr hx] at rx
    rw [relStr hy] at ry
    obtain ⟨t, rfl⟩ := rx
    obtain ⟨t', rfl⟩ := ry
    have e : decide (a = b) = (a == b) := by
      by_cases e : a = b
      · subst e; simp
      · simp [e]
    rw [e]
    exact ⟨SeqAt.RcAt.str_str a t b t', SeqAt.RcNeAt.str_str a t b t'⟩
  · rename_i xs
    cases h
    obtain ⟨a, vs, rfl, h1, h2⟩ := relTup hx
    obtain ⟨a2, vs2, rfl, h3, h4⟩ := relTup hy
    cases rx
    cases ry
    simp only [RelL] at h4
    subst h4
    obtain ⟨its, r1, p1, _⟩ := I.tuple (sqT_mono hf h1)
    obtain ⟨its2, r2, p2, _⟩ := I.tuple (sqT_mono hf h3)
    cases r2
    have l1 := r1.length
    have l2 := h2.len
    have e : xs.isEmpty = ((List.range (min its.toArray.size ([] : List Value).toArray.size)).all (fun _ => true) && its.toArray.size == ([] : List Value).toArray.size) := by
      cases xs with
      | nil =>
        have e0 : its = [] := List.length_eq_zero_iff.mp (by rw [← l1, ← l2]; rfl)
        subst e0
        rfl
      | cons z zs =>
        cases its with
        | nil => rw [← l2] at l1; simp at l1
        | cons q qs => simp
    rw [e]
    exact ⟨SeqAt.RcAt.tuples p1 p2 (by omega) (fun j _ h => absurd h (by simp)), SeqAt.RcNeAt.tuples p1 p2 (by omega) (fun j _ h => absurd h (by simp))⟩
  · rename_i xs
    cases h
    obtain ⟨a, vs, rfl, h1, h2⟩ := relLst hx
    obtain ⟨a2, vs2, rfl, h3, h4⟩ := relLst hy
    cases rx
    cases ry
    simp only [RelL] at h4
    subst h4
    exact lists (sqL_mono hf h1) (sqL_mono hf h3) h2.len
  · rename_i xs
    cases h
    obtain ⟨a, vs, rfl, h1, h2⟩ := relRol hx
    obtain ⟨a2, vs2, rfl, h3, h4⟩ := relLst hy
    cases rx
    cases ry
    simp only [RelL] at h4
    subst h4
    exact lists (sqL_mono hf h1) (sqL_mono hf h3) h2.len
  · exact gen h
end
theorem oj_eq (hu : X.A.units + 64 < cLine) : OpR X (compareOp .Eq) (rJ (gx X) cEq) := by
  intro pins s σ H x y v u Q I rx ry h
  obtain ⟨F, ρ, cs, xi, yi, z, hs, hx, hy, hf, q⟩ := h
  unfold cEq at hf
  obtain ⟨b, hb, rfl⟩ := Option.map_eq_some_iff.mp hf
  exact (eq_same I hs.fz hu hx hy rx ry hb).1 _ _ _ _ ⟨.bl _, H, I, rfl, q F ρ H _ StpU.refl hs (by simp only [Rel])⟩
theorem oj_ne (hu : X.A.units + 64 < cLine) : OpR X (compareOp .NotEq) (rJ (gx X) cNe) := by
  intro pins s σ H x y v u Q I rx ry h
  obtain ⟨F, ρ, cs, xi, yi, z, hs, hx, hy, hf, q⟩ := h
  unfold cNe at hf
  obtain ⟨b, hb, rfl⟩ := Option.map_eq_some_iff.mp hf
  exact (eq_same I hs.fz hu hx hy rx ry hb).2 _ _ _ _ ⟨.bl _, H, I, rfl, q F ρ H _ StpU.refl hs (by simp only [Rel])⟩

/-- repr of plain data -/
def reprOf (x : IV) : Option IV := match toPy x with
  | some d => if d.showable = true ∧ d.depth ≤ 60 ∧ d.shown.length ≤ lim then some (.str d.shown) else none
  | none => none
theorem repr_any {prog : Program} {w : World} {A : Around} {E : Value → Shared → Prop} {s : Shared} {Q : Value → Shared → Prop} {v : Value} {d : PyData} (r : Txt prog w s.heap v d) (hs : d.showable = true)
    (hg : A.guards = some []) (hu : A.units + 64 < cLine) (hd : d.depth ≤ 60) (hsz : d.shown.length ≤ sizeLine)
    (hQ : ∀ h' u tk, (∀ b o, s.heap.get? b = some o → h'.get? b = some o) → Q (.str d.shown u) { s with heap := h', toks := tk }) : wpAny (model prog w) A (call (.builtin "repr") [v]) Q E s :=
  r.top hs hsz A E s Q rfl hg (by omega) hQ
end
end SL

set_option Elab.async false
set_option linter.all false
set_option autoImplicit false
set_option maxRecDepth 100000
set_option maxHeartbeats 4000000
/-! SLTest: tests, and, or, not, is, in, chains, conditional expressions, subscripts, slices, displays. -/
namespace SL
open PySem PySem.Spec L2
open PyProof.Rows hiding St

def isB : IV → Option Bool
  | .bl b => some b
  | _ => none
theorem isB_some {x : IV} {b : Bool} (h : isB x = some b) : x = .bl b := by
  cases x <;> simp only [isB] at h <;> first | cases h; rfl | cases h
def mB (m : M IV) : M Bool := m.bind fun x => M.opt (isB x)
/-- a value's truth -/
def truI : IV → Option Bool
  | .non => some false
  | .bl b => some b
  | .int i => some (i != 0)
  | .str s => if s.length ≤ lim then some ((s.length : Int) != 0) else none
  | .lst xs => some (!xs.isEmpty)
  | .rol xs => some (!xs.isEmpty)
  | .tup xs => some (!xs.isEmpty)
  | _ => none
def mT (m : M IV) : M Bool := m.bind fun x => M.opt (truI x)
def mAnd (a b : M Bool) : M Bool := a.bind fun x => if x = true then b else M.pure false
def mOr (a b : M Bool) : M Bool := a.bind fun x => if x = true then M.pure true else b
def mNot (a : M Bool) : M Bool := a.bind fun x => M.pure (!x)
/-- values -/
def eAnd (a b : M IV) : M IV := (mB a).bind fun x => if x = true then b else M.pure (.bl false)
def eOr (a b : M IV) : M IV := (mB a).bind fun x => if x = true then M.pure (.bl true) else b
def eNot (a : M IV) : M IV := (mB a).bind fun x => M.pure (.bl (!x))
def eIf (t : M Bool) (a b : M IV) : M IV := t.bind fun x => if x = true then a else b
def eChain (f f' : IV → IV → Option IV) (ma mb mc : M IV) : M IV := ma.bind fun x => mb.bind fun y => (mB (M.opt (f x y))).bind fun k => if k = true then mc.bind fun z => M.opt (f' y z) else M.pure (.bl false)

section
variable {X : Cx} {n : Nat} {W : WX} {a b c e : Expr} {ma mb mc m : M IV} {tA tB tC : M Bool} {pos : Pos} {g : Gx}

theorem mB_run {σ : St} {H : Hp} {Q : Bool → Hp → Prop} (h : tG g n W RB (mB m) σ H Q) : tG g n W (Rel g) m σ H fun x H1 => ∃ k, x = .bl k ∧ Q k H1 := by
  obtain ⟨F, ρ, cs, σi, hs, hl, hp⟩ := h
  refine go hs hl hp fun v H1 F1 ρ1 cs1 x st1 hs1 hl1 r1 hp1 => ?_
  obtain ⟨z, q, hq⟩ := pst_opt (o := isB x) hp1
  rw [isB_some q] at r1
  exact ⟨z, relBl r1, hq F1 ρ1 H1 z StpU.refl hs1 rfl⟩
theorem jt_val (h : JE X n W e m) (he : ∀ whole, isTrue e X.env whole = (do let v ← whole; standAt e.pos; holding [v] (truthy v)) := by intro _; rfl) : JT X n W e (mB m) :=
  pt_imp (pt_val h he) fun σ H Q q => mB_run q
theorem e2_run {f : IV → IV → Option IV} {σ : St} {H : Hp} {Q : VK} (h : tG g n W (Rel g) (e2 f ma mb) σ H Q) : tOp (rJ g f) (tG g n W (Rel g) ma) (tG g n W (Rel g) mb) σ H Q := by
  obtain ⟨F, ρ, cs, σi, hs, hl, hp⟩ := h
  refine go hs hl hp fun x H1 F1 ρ1 cs1 xi st1 hs1 hl1 rx hp1 => ?_
  refine go hs1 hl1 hp1 fun y H2 F2 ρ2 cs2 yi st2 hs2 hl2 ry hp2 => ?_
  obtain ⟨z, q, hq⟩ := pst_opt (o := f xi yi) hp2
  exact ⟨F2, ρ2, cs2, xi, yi, z, hs2, rx.stp st2, ry, q, hq⟩
theorem tOp_mono {f : IV → IV → Option IV} {σ : St} {H : Hp} {Q Q' : VK} (h : tG g n W (Rel g) (e2 f ma mb) σ H Q) (hq : ∀ v H', Q v H' → Q' v H') : tG g n W (Rel g) (e2 f ma mb) σ H Q' := h.mono hq
theorem jt_cmp {op : CmpOp} {f : IV → IV → Option IV} (ho : OpR X (compareOp op) (rJ (gx X) f)) (ha : JE X n W a ma) (hb : JE X n W b mb) (hm : behindInMarks op b = false) : JT X n W (.Compare a [op] [b] pos) (mB (e2 f ma mb)) :=
  pt_imp (pt_cmpR ho ha hb hm) fun σ H Q q => e2_run (mB_run q)
theorem zip_empty {α β : Type} {ks : List α} {vs : List β} (h : ks.length = vs.length) : (ks.zip vs).isEmpty = ks.isEmpty := by
  cases ks <;> cases vs <;> simp_all
theorem tru_rel {F : Hp} {ρ : List Addr} {H : Hp} (hf : ∀ a o, F a = some o → H a = some o) {x : IV} {v : V} {k : Bool} (r : Rel g F ρ x v) (h : truI x = some k) : TruV g.K v H k := by
  cases x with
  | non => rw [relNon r]; cases h; rfl
  | bl b => rw [relBl r]; cases h; rfl
  | int i => rw [relInt r]; cases h; rfl
  | str s =>
    rw [relStr r]
    simp only [truI] at h
    split at h
    · rename_i hz; cases h; exact ⟨lim_le hz, rfl⟩
    · cases h
  | tup xs =>
    simp only [Rel] at r
    obtain ⟨a, vs, rfl, h1, h2⟩ := r
    cases h
    exact .inr (.inl ⟨vs, sqT_mono hf h1, by have := h2.len; cases xs <;> cases vs <;> simp_all⟩)
  | lst xs =>
    simp only [Rel] at r
    obtain ⟨a, vs, rfl, h1, h2⟩ := r
    cases h
    exact .inl ⟨vs, .inl (.inl (hf _ _ h1)), by have := h2.len; cases xs <;> cases vs <;> simp_all⟩
  | rol xs =>
    simp only [Rel] at r
    obtain ⟨a, vs, rfl, h1, h2⟩ := r
    cases h
    exact .inl ⟨vs, sqL_mono hf h1, by have := h2.len; cases xs <;> cases vs <;> simp_all⟩
  | _ => cases h
end
section
variable {X : Cx} {n : Nat} {W : WX} {a b c e : Expr} {ma mb mc m : M IV} {tA tB tC : M Bool} {pos : Pos} {g : Gx} {rest : List Expr}
theorem jw_and1 (h : JT X n W a tA) : JW X n W (.BoolOp .And [a] pos) tA := pw_and1 h
theorem jw_or1 (h : JT X n W a tA) : JW X n W (.BoolOp .Or [a] pos) tA := pw_or1 h
theorem jw_and (h : JT X n W a tA) (h' : JW X n W (.BoolOp .And (b :: rest) pos) tB) : JW X n W (.BoolOp .And (a :: b :: rest) pos) (mAnd tA tB) := by
  refine pw_imp (pw_and h h') fun σ H Q q => ?_
  obtain ⟨F, ρ, cs, σi, hs, hl, hp⟩ := q
  refine go hs hl hp fun v H1 F1 ρ1 cs1 x st1 hs1 hl1 r1 hp1 => ?_
  have r1' : x = v := r1
  subst r1'
  cases x with
  | true => exact ⟨F1, ρ1, cs1, σi, hs1, hl1, hp1⟩
  | false => exact hp1 F1 ρ1 H1 _ StpU.refl hs1 rfl
theorem jw_or (h : JT X n W a tA) (h' : JW X n W (.BoolOp .Or (b :: rest) pos) tB) : JW X n W (.BoolOp .Or (a :: b :: rest) pos) (mOr tA tB) := by
  refine pw_imp (pw_or h h') fun σ H Q q => ?_
  obtain ⟨F, ρ, cs, σi, hs, hl, hp⟩ := q
  refine go hs hl hp fun v H1 F1 ρ1 cs1 x st1 hs1 hl1 r1 hp1 => ?_
  have r1' : x = v := r1
  subst r1'
  cases x with
  | false => exact ⟨F1, ρ1, cs1, σi, hs1, hl1, hp1⟩
  | true => exact hp1 F1 ρ1 H1 _ StpU.refl hs1 rfl
theorem jt_bool (h : JW X n W e tA) : JT X n W e tA := PW.pt h
theorem jt_not (h : JT X n W a tA) : JT X n W (.UnaryOp .Not a pos) (mNot tA) := by
  refine pt_imp (pt_not h) fun σ H Q q => ?_
  obtain ⟨F, ρ, cs, σi, hs, hl, hp⟩ := q
  refine go hs hl hp fun v H1 F1 ρ1 cs1 x st1 hs1 hl1 r1 hp1 => ?_
  have r1' : x = v := r1
  subst r1'
  exact hp1 F1 ρ1 H1 _ StpU.refl hs1 rfl
theorem jt_tru (h : JE X n W e m) (he : ∀ whole, isTrue e X.env whole = (do let v ← whole; standAt e.pos; holding [v] (truthy v)) := by intro _; rfl) : JT X n W e (mT m) := by
  refine pt_imp (pt_truth h he) fun σ H Q q => ?_
  obtain ⟨F, ρ, cs, σi, hs, hl, hp⟩ := q
  refine go hs hl hp fun v H1 F1 ρ1 cs1 x st1 hs1 hl1 r1 hp1 => ?_
  obtain ⟨k, hk, hq⟩ := pst_opt (o := truI x) hp1
  exact ⟨k, tru_rel hs1.fz r1 hk, hq F1 ρ1 H1 k StpU.refl hs1 rfl⟩
theorem je_one {op} (h : JE X n W a m) : JE X n W (.BoolOp op [a] pos) m := pe_one h
theorem je_and (ha : JE X n W a ma) (hb : JE X n W (.BoolOp .And (b :: rest) pos) mb) : JE X n W (.BoolOp .And (a :: b :: rest) pos) (eAnd ma mb) := by
  refine pe_imp (pe_and ha hb) fun σ H Q q => ?_
  obtain ⟨F, ρ, cs, σi, hs, hl, hp⟩ := q
  have h1 : tG (gx X) n W RB (mB ma) σ H (fun c H1 => if c = true then tG (gx X) n W (Rel (gx X)) mb σ H1 Q else Q (.bl false) H1) := go hs hl hp fun v H1 F1 ρ1 cs1 x st1 hs1 hl1 r1 hp1 => by
    have r1' : x = v := r1
    subst r1'
    cases x with
    | true => exact ⟨F1, ρ1, cs1, σi, hs1, hl1, hp1⟩
    | false => exact hp1 F1 ρ1 H1 _ StpU.refl hs1 (by simp only [Rel])
  exact mB_run h1
theorem je_or (ha : JE X n W a ma) (hb : JE X n W (.BoolOp .Or (b :: rest) pos) mb) : JE X n W (.BoolOp .Or (a :: b :: rest) pos) (eOr ma mb) := by
  refine pe_imp (pe_or ha hb) fun σ H Q q => ?_
  obtain ⟨F, ρ, cs, σi, hs, hl, hp⟩ := q
  have h1 : tG (gx X) n W RB (mB ma) σ H (fun c H1 => if c = true then Q (.bl true) H1 else tG (gx X) n W (Rel (gx X)) mb σ H1 Q) := go hs hl hp fun v H1 F1 ρ1 cs1 x st1 hs1 hl1 r1 hp1 => by
    have r1' : x = v := r1
    subst r1'
    cases x with
    | false => exact ⟨F1, ρ1, cs1, σi, hs1, hl1, hp1⟩
    | true => exact hp1 F1 ρ1 H1 _ StpU.refl hs1 (by simp only [Rel])
  exact mB_run h1
theorem je_not (ha : JE X n W a ma) : JE X n W (.UnaryOp .Not a pos) (eNot ma) := by
  refine pe_imp (pe_not ha) fun σ H Q q => ?_
  obtain ⟨F, ρ, cs, σi, hs, hl, hp⟩ := q
  have h1 : tG (gx X) n W RB (mB ma) σ H (fun c H1 => Q (.bl (!c)) H1) := go hs hl hp fun v H1 F1 ρ1 cs1 x st1 hs1 hl1 r1 hp1 => by
    have r1' : x = v := r1
    subst r1'
    exact hp1 F1 ρ1 H1 _ StpU.refl hs1 (by simp only [Rel])
  exact mB_run h1
theorem je_if (hc : JT X n W c tC) (ha : JE X n W a ma) (hb : JE X n W b mb) : JE X n W (.IfExp c a b pos) (eIf tC ma mb) := by
  refine pe_imp (pe_ifExp hc ha hb) fun σ H Q q => ?_
  obtain ⟨F, ρ, cs, σi, hs, hl, hp⟩ := q
  refine go hs hl hp fun v H1 F1 ρ1 cs1 x st1 hs1 hl1 r1 hp1 => ?_
  have r1' : x = v := r1
  subst r1'
  cases x with
  | true => exact ⟨F1, ρ1, cs1, σi, hs1, hl1, hp1⟩
  | false => exact ⟨F1, ρ1, cs1, σi, hs1, hl1, hp1⟩
theorem chain_run {f f' : IV → IV → Option IV} {σ : St} {H : Hp} {Q : VK} (h : tG g n W (Rel g) (eChain f f' ma mb mc) σ H Q) : tChain (rJ g f) (rJ g f') (tG g n W (Rel g) ma) (tG g n W (Rel g) mb) (tG g n W (Rel g) mc) σ H Q := by
  obtain ⟨F, ρ, cs, σi, hs, hl, hp⟩ := h
  refine go hs hl hp fun x H1 F1 ρ1 cs1 xi st1 hs1 hl1 rx hp1 => ?_
  refine go hs1 hl1 hp1 fun y H2 F2 ρ2 cs2 yi st2 hs2 hl2 ry hp2 => ?_
  have hp3 : Pst g W σ (Rel g) F2 ρ2 H2 (((mB (M.opt (f xi yi))) n σi cs2).then fun k cs' => (if k = true then mc.bind fun z => M.opt (f' yi z) else M.pure (.bl false)) n σi cs') Q := hp2
  cases e : f xi yi with
  | none => rw [e] at hp3; exact hp3.elim
  | some z =>
    rw [e] at hp3
    cases e2 : isB z with
    | none =>
      have : mB (M.opt (some z)) n σi cs2 = .stuck := by
        simp only [mB, M.bind, M.opt, Res.then, e2]
      rw [this] at hp3
      exact hp3.elim
    | some k =>
      have e3 := isB_some e2
      subst e3
      have hp4 : Pst g W σ (Rel g) F2 ρ2 H2 ((if k = true then mc.bind fun z => M.opt (f' yi z) else M.pure (.bl false)) n σi cs2) Q := hp3
      refine ⟨F2, ρ2, cs2, xi, yi, .bl k, hs2, rx.stp st2, ry, e, fun F3 ρ3 H3 v st3 hs3 r3 => ⟨k, relBl r3, ?_⟩⟩
      cases k with
      | false => exact hp4 F3 ρ3 H3 _ st3 hs3 (by simp only [Rel])
      | true =>
        have hp5 : Pst g W σ (Rel g) F3 ρ3 H3 ((mc n σi cs2).then fun z cs' => M.opt (f' yi z) n σi cs') Q := Pst.stp hp4 st3
        refine go hs3 (hl2.stp st3) hp5 fun w H4 F4 ρ4 cs4 wi st4 hs4 hl4 rw hp6 => ?_
        obtain ⟨z, q, hq⟩ := pst_opt (o := f' yi wi) hp6
        exact ⟨F4, ρ4, cs4, yi, wi, z, hs4, (ry.stp st3).stp st4, rw, q, hq⟩
theorem je_chain {op op' : CmpOp} {f f' : IV → IV → Option IV} (ho : OpR X (compareOp op) (rJ (gx X) f)) (ho' : OpR X (compareOp op') (rJ (gx X) f')) (ha : JE X n W a ma) (hb : JE X n W b mb) (hc : JE X n W c mc)
    (hm : lastMarks [op, op'] [b, c] = false := by with_unfolding_all rfl) : JE X n W (.Compare a [op, op'] [b, c] pos) (eChain f f' ma mb mc) := pe_imp (pe_chain ho ho' ha hb hc hm) fun σ H Q q => chain_run q
theorem jt_chain {op op' : CmpOp} {f f' : IV → IV → Option IV} (ho : OpR X (compareOp op) (rJ (gx X) f)) (ho' : OpR X (compareOp op') (rJ (gx X) f')) (ha : JE X n W a ma) (hb : JE X n W b mb) (hc : JE X n W c mc)
    (hm : lastMarks [op, op'] [b, c] = false := by with_unfolding_all rfl) : JT X n W (.Compare a [op, op'] [b, c] pos) (mB (eChain f f' ma mb mc)) := pt_imp (pt_chain ho ho' ha hb hc hm) fun σ H Q q => chain_run (mB_run q)

/-! ### is, in -/
def isNon : IV → Bool
  | .non => true
  | _ => false
theorem rel_non {F : Hp} {ρ : List Addr} {x : IV} {v : V} (r : Rel g F ρ x v) : decide (v = .non) = isNon x := by
  cases x with
  | non => rw [relNon r]; rfl
  | bl b => rw [relBl r]; rfl
  | int i => rw [relInt r]; rfl
  | str s => rw [relStr r]; rfl
  | ty s => rw [relTy r]; rfl
  | glb s =>
    simp only [Rel] at r
    obtain ⟨a, _, rfl⟩ := r
    rfl
  | tup xs =>
    simp only [Rel] at r
    obtain ⟨a, vs, rfl, _⟩ := r
    rfl
  | lst xs =>
    simp only [Rel] at r
    obtain ⟨a, vs, rfl, _⟩ := r
    rfl
  | rol xs =>
    simp only [Rel] at r
    obtain ⟨a, vs, rfl, _⟩ := r
    rfl
  | dct ks xs =>
    simp only [Rel] at r
    obtain ⟨a, vs, rfl, _⟩ := r
    rfl
  | cell k =>
    simp only [Rel] at r
    obtain ⟨a, rfl, _⟩ := r
    rfl
  | obj c fs xs =>
    simp only [Rel] at r
    obtain ⟨a, C, dx, vs, rfl, _⟩ := r
    rfl
def cIs : IV → IV → Option IV
  | x, .non => some (.bl (isNon x))
  | .bl a, .bl b => some (.bl (decide (a = b)))
  | _, _ => none
def cIsNot : IV → IV → Option IV
  | x, .non => some (.bl (!isNon x))
  | .bl a, .bl b => some (.bl (!decide (a = b)))
  | _, _ => none
theorem oj_is : OpR X (compareOp .Is) (rJ (gx X) cIs) := by
  intro pins s σ H x y v u Q I rx ry h
  obtain ⟨F, ρ, cs, xi, yi, z, hs, hx, hy, hf, q⟩ := h
  unfold cIs at hf
  split at hf
  · cases hf
    rw [relNon hy] at ry
    exact op_isN pins s σ H _ _ v u Q I rx ry ⟨rfl, q F ρ H _ StpU.refl hs (by rw [rel_non hx]; simp only [Rel])⟩
  · cases hf
    rw [relBl hy] at ry; rw [relBl hx] at rx
    exact op_isBl pins s σ H _ _ v u Q I rx ry ⟨_, _, rfl, rfl, q F ρ H _ StpU.refl hs (by simp only [Rel])⟩
  · cases hf
theorem oj_isNot : OpR X (compareOp .IsNot) (rJ (gx X) cIsNot) := by
  intro pins s σ H x y v u Q I rx ry h
  obtain ⟨F, ρ, cs, xi, yi, z, hs, hx, hy, hf, q⟩ := h
  unfold cIsNot at hf
  split at hf
  · cases hf
    rw [relNon hy] at ry
    exact op_notN pins s σ H _ _ v u Q I rx ry ⟨rfl, q F ρ H _ StpU.refl hs (by rw [rel_non hx]; simp only [Rel])⟩
  · cases hf
    rw [relBl hy] at ry; rw [relBl hx] at rx
    exact op_notBl pins s σ H _ _ v u Q I rx ry ⟨_, _, rfl, rfl, q F ρ H _ StpU.refl hs (by simp only [Rel])⟩
  · cases hf
def flatI : IV → Option V
  | .non => some .non
  | .bl b => some (.bl b)
  | .int i => some (.int i)
  | .str s => some (.str s)
  | _ => none
def flatL : List IV → Option (List V)
  | [] => some []
  | x :: xs => match flatI x, flatL xs with
    | some v, some vs => some (v :: vs)
    | _, _ => none
theorem flat_rel {F : Hp} {ρ : List Addr} {x : IV} {v w : V} (r : Rel g F ρ x v) (h : flatI x = some w) : v = w ∧ flatV v = true := by
  cases x with
  | non => rw [relNon r]; cases h; exact ⟨rfl, rfl⟩
  | bl b => rw [relBl r]; cases h; exact ⟨rfl, rfl⟩
  | int i => rw [relInt r]; cases h; exact ⟨rfl, rfl⟩
  | str s => rw [relStr r]; cases h; exact ⟨rfl, rfl⟩
  | _ => cases h
theorem flat_relL {F : Hp} {ρ : List Addr} : ∀ {xs : List IV} {vs ws : List V}, RelL g F ρ xs vs → flatL xs = some ws → vs = ws ∧ vs.all flatV = true
  | [], vs, ws, r, h => by
    simp only [RelL] at r
    subst r
    cases h
    exact ⟨rfl, rfl⟩
  | x :: xs, vs, ws, r, h => by
    simp only [RelL] at r
    obtain ⟨v, t, rfl, h1, h2⟩ := r
    simp only [flatL] at h
    split at h
    · rename_i w ws' e1 e2
      cases h
      obtain ⟨rfl, p1⟩ := flat_rel h1 e1
      obtain ⟨rfl, p2⟩ := flat_relL h2 e2
      exact ⟨rfl, by rw [List.all_cons, p1, p2]; rfl⟩
    · cases h
/-- x in y: one sign in a text; a flat value in a tuple or a list of flat values -/
def inI (x y : IV) : Option Bool := match y with
  | .str z => match x with
    | .str c => match c.cps.toList with
      | [k] => some (decide (k ∈ z.cps.toList))
      | _ => none
    | _ => none
  | .tup ys => match flatI x, flatL ys with
    | some v, some vs => some (inV v vs)
    | _, _ => none
  | .lst ys => match flatI x, flatL ys with
    | some v, some vs => some (inV v vs)
    | _, _ => none
  | _ => none
theorem inI_seq {F : Hp} {ρ : List Addr} {x : IV} {ys : List IV} {xv : V} {vs : List V} {b : Bool} (hx : Rel g F ρ x xv) (hy : RelL g F ρ ys vs) (h : (match flatI x, flatL ys with | some v, some vs => some (inV v vs) | _, _ => none) = some b) :
    flatV xv = true ∧ vs.all flatV = true ∧ b = inV xv vs := by
  split at h
  · rename_i v ws e1 e2
    cases h
    obtain ⟨rfl, p1⟩ := flat_rel hx e1
    obtain ⟨rfl, p2⟩ := flat_relL hy e2
    exact ⟨p1, p2, rfl⟩
  · cases h
theorem str_one {c : Str} {k : Nat} (h : c.cps.toList = [k]) : c = ⟨#[k]⟩ := by
  obtain ⟨a⟩ := c
  have : a = #[k] := by
    apply Array.toList_inj.mp
    exact h
  rw [this]
def cIn (x y : IV) : Option IV := (inI x y).map .bl
def cNotIn (x y : IV) : Option IV := (inI x y).map fun b => .bl (!b)
theorem oj_in : OpR X (compareOp .In) (rJ (gx X) cIn) := by
  intro pins s σ H x y v u Q I rx ry h
  obtain ⟨F, ρ, cs, xi, yi, z, hs, hx, hy, hf, q⟩ := h
  unfold cIn at hf
  obtain ⟨b, hb, rfl⟩ := Option.map_eq_some_iff.mp hf
  unfold inI at hb
  split at hb
  · split at hb
    · split at hb
      · rename_i c k e
        cases hb
        rw [relStr hy] at ry; rw [relStr hx, str_one e] at rx
        exact op_in_sign pins s σ H _ _ v u Q I rx ry ⟨k, _, rfl, rfl, q F ρ H _ StpU.refl hs (by simp only [Rel])⟩
      · cases hb
    · cases hb
  · simp only [Rel] at hy
    obtain ⟨a, vs, rfl, h1, h2⟩ := hy
    obtain ⟨p1, p2, rfl⟩ := inI_seq hx h2 hb
    exact op_in_seq pins s σ H _ _ v u Q I rx ry ⟨a, vs, rfl, .inr (sqT_mono hs.fz h1), p1, p2, q F ρ H _ StpU.refl hs (by simp only [Rel]; rfl)⟩
  · simp only [Rel] at hy
    obtain ⟨a, vs, rfl, h1, h2⟩ := hy
    obtain ⟨p1, p2, rfl⟩ := inI_seq hx h2 hb
    exact op_in_seq pins s σ H _ _ v u Q I rx ry ⟨a, vs, rfl, .inl (.inl (.inl (hs.fz _ _ h1))), p1, p2, q F ρ H _ StpU.refl hs (by simp only [Rel]; rfl)⟩
  · cases hb
theorem oj_notIn : OpR X (compareOp .NotIn) (rJ (gx X) cNotIn) := by
  intro pins s σ H x y v u Q I rx ry h
  obtain ⟨F, ρ, cs, xi, yi, z, hs, hx, hy, hf, q⟩ := h
  unfold cNotIn at hf
  obtain ⟨b, hb, rfl⟩ := Option.map_eq_some_iff.mp hf
  unfold inI at hb
  split at hb
  · split at hb
    · split at hb
      · rename_i c k e
        cases hb
        rw [relStr hy] at ry; rw [relStr hx, str_one e] at rx
        exact op_notIn_sign pins s σ H _ _ v u Q I rx ry ⟨k, _, rfl, rfl, q F ρ H _ StpU.refl hs (by simp only [Rel])⟩
      · cases hb
    · cases hb
  · simp only [Rel] at hy
    obtain ⟨a, vs, rfl, h1, h2⟩ := hy
    obtain ⟨p1, p2, rfl⟩ := inI_seq hx h2 hb
    exact op_notIn_seq pins s σ H _ _ v u Q I rx ry ⟨a, vs, rfl, .inr (sqT_mono hs.fz h1), p1, p2, q F ρ H _ StpU.refl hs (by simp only [Rel]; rfl)⟩
  · simp only [Rel] at hy
    obtain ⟨a, vs, rfl, h1, h2⟩ := hy
    obtain ⟨p1, p2, rfl⟩ := inI_seq hx h2 hb
    exact op_notIn_seq pins s σ H _ _ v u Q I rx ry ⟨a, vs, rfl, .inl (.inl (.inl (hs.fz _ _ h1))), p1, p2, q F ρ H _ StpU.refl hs (by simp only [Rel]; rfl)⟩
  · cases hb
end
end SL

set_option Elab.async false
set_option linter.all false
set_option autoImplicit false
set_option maxRecDepth 100000
set_option maxHeartbeats 4000000
/-! SLSub: arguments, displays, subscripts, slices, built-in functions. -/
namespace SL
open PySem PySem.Spec L2
open PyProof.Rows hiding St

def aNil : M (List IV) := M.pure []
def aCons (m : M IV) (r : M (List IV)) : M (List IV) := m.bind fun x => r.bind fun xs => M.pure (x :: xs)
def eTup (a : M (List IV)) : M IV := a.bind fun xs => M.opt (if xs.length ≤ lim then some (.tup xs) else none)
def eLst (a : M (List IV)) : M IV := a.bind fun xs => M.opt (if xs.length ≤ lim then some (.lst xs) else none)

/-- an operation on two values and what stands at the cells -/
def rJc (g : Gx) (f : List Cell → IV → IV → Option IV) : R2 := fun x y H Q => ∃ F ρ cs xi yi z, Sim g F ρ cs H ∧ Rel g F ρ xi x ∧ Rel g F ρ yi y ∧ f cs xi yi = some z ∧ ∀ F' ρ' H' v, Stp F ρ H F' ρ' H' → Sim g F' ρ' cs H' → Rel g F' ρ' z v → Q v H'
def eCells (f : List Cell → Option IV) : M IV := fun _ _ cs => match f cs with
  | some a => .ok a cs
  | none => .stuck
def e2c (f : List Cell → IV → IV → Option IV) (ma mb : M IV) : M IV := ma.bind fun x => mb.bind fun y => eCells fun cs => f cs x y
/-- x[i] -/
def ixI (cs : List Cell) (x y : IV) : Option IV := match y with
  | .int i => match x with
    | .tup xs => atI xs i
    | .lst xs => atI xs i
    | .rol xs => atI xs i
    | .str s => if s.length ≤ lim then (atI s.cps.toList i).map fun c => .str ⟨#[c]⟩ else none
    | .cell k => match cs[k]? with
      | some (.lst xs) => atI xs i
      | _ => none
    | _ => none
  | _ => none
/-- xs[lo:hi] -/
def cut {α : Type} (xs : List α) (lo hi : Option Int) : List α := (xs.drop (HT.sIx xs.length 0 lo)).take (HT.sIx xs.length xs.length hi - HT.sIx xs.length 0 lo)
def slI (x : IV) (lo hi : Option Int) : Option IV := match x with
  | .tup xs => some (.tup (cut xs lo hi))
  | .lst xs => some (.lst (cut xs lo hi))
  | .rol xs => some (.lst (cut xs lo hi))
  | .str s => if s.length ≤ lim then some (.str (cutS s lo hi)) else none
  | _ => none
def oNone : M (Option Int) := M.pure none
def asInt : IV → Option Int
  | .int i => some i
  | _ => none
def oSome (m : M IV) : M (Option Int) := m.bind fun x => M.opt ((asInt x).map some)
def eSl (m : M IV) (lo hi : M (Option Int)) : M IV := m.bind fun x => lo.bind fun l => hi.bind fun h => M.opt (slI x l h)
def eRevL (m : M IV) : M IV := m.bind fun x => M.opt (match x with
  | .lst xs => some (.lst xs.reverse)
  | .rol xs => some (.lst xs.reverse)
  | _ => none)

section
variable {X : Cx} {n : Nat} {W : WX} {a b c e : Expr} {es : List Expr} {ma mb mc m : M IV} {mr : M (List IV)} {pos : Pos} {g : Gx}
theorem ja_nil : JA X n W [] aNil := by
  refine pa_imp pa_nil fun σ H Q q => ?_
  obtain ⟨F, ρ, cs, σi, hs, hl, hp⟩ := q
  exact hp F ρ H [] StpU.refl hs RelL.nil
theorem ja_cons (h : JE X n W a m) (hr : JA X n W es mr) (hs : starEach (a :: es) X.env = (false, eval a X.env) :: starEach es X.env := by rfl) : JA X n W (a :: es) (aCons m mr) := by
  refine pa_imp (pa_cons h hr hs) fun σ H Q q => ?_
  obtain ⟨F, ρ, cs, σi, hs, hl, hp⟩ := q
  refine go hs hl hp fun v H1 F1 ρ1 cs1 x st1 hs1 hl1 r1 hp1 => ?_
  refine go hs1 hl1 hp1 fun vs H2 F2 ρ2 cs2 xs st2 hs2 hl2 r2 hp2 => ?_
  exact hp2 F2 ρ2 H2 _ StpU.refl hs2 (.cons (r1.stp st2) r2)
theorem je_tup {k} (h : JA X n W es mr) : JE X n W (.Tuple es k pos) (eTup mr) := by
  refine pe_imp (pe_tup h) fun σ H Q q => ?_
  obtain ⟨F, ρ, cs, σi, hs, hl, hp⟩ := q
  refine go hs hl hp fun vs H1 F1 ρ1 cs1 xs st1 hs1 hl1 r1 hp1 => ?_
  obtain ⟨z, hz, hq⟩ := pst_opt (o := if xs.length ≤ lim then some (IV.tup xs) else none) hp1
  split at hz
  · rename_i hle
    cases hz
    refine ⟨lim_le (by rw [← r1.len]; exact hle), fun p hp => ?_⟩
    obtain ⟨hs', st⟩ := hs1.new (o := .tup vs) hp
    exact hq _ _ _ _ st hs' (by simp only [Rel]; exact ⟨p, vs, rfl, .inl (.inl upd_same), r1.stp st⟩)
  · cases hz
theorem je_lst (h : JA X n W es mr) : JE X n W (.List es pos) (eLst mr) := by
  refine pe_imp (pe_lst h) fun σ H Q q => ?_
  obtain ⟨F, ρ, cs, σi, hs, hl, hp⟩ := q
  refine go hs hl hp fun vs H1 F1 ρ1 cs1 xs st1 hs1 hl1 r1 hp1 => ?_
  obtain ⟨z, hz, hq⟩ := pst_opt (o := if xs.length ≤ lim then some (IV.lst xs) else none) hp1
  split at hz
  · rename_i hle
    cases hz
    refine ⟨lim_le (by rw [← r1.len]; exact hle), fun p hp => ?_⟩
    obtain ⟨hs', st⟩ := hs1.new (o := .lst vs) hp
    exact hq _ _ _ _ st hs' (by simp only [Rel]; exact ⟨p, vs, rfl, upd_same, r1.stp st⟩)
  · cases hz

/-! ### subscripts -/
theorem atI_rel {F : Hp} {ρ : List Addr} {xs : List IV} {vs : List V} (r : RelL g F ρ xs vs) {i : Int} {x : IV} (h : atI xs i = some x) : ∃ v, atI vs i = some v ∧ Rel g F ρ x v := by
  unfold atI at h ⊢
  rw [← r.len]
  obtain ⟨j, h1, h2⟩ := Option.bind_eq_some_iff.mp h
  obtain ⟨v, e, r'⟩ := r.get h2
  exact ⟨v, by rw [h1]; exact e, r'⟩
theorem ij_ix : IxR X (rJc (gx X) ixI) := by
  intro value slice pins s σ H x y v u Q I rx ry h hsub
  obtain ⟨F, ρ, cs, xi, yi, z, hs, hx, hy, hf, q⟩ := h
  unfold ixI at hf
  split at hf
  · rename_i i
    rw [relInt hy] at ry
    have fin : ∀ {w : V}, Rel (gx X) F ρ z w → Q w H := fun {w} r => q F ρ H w StpU.refl hs r
    split at hf
    · simp only [Rel] at hx
      obtain ⟨a, vs, rfl, h1, h2⟩ := hx
      obtain ⟨w, hw, r⟩ := atI_rel h2 hf
      exact ix_tup value slice pins s σ H _ _ v u Q I rx ry ⟨a, vs, i, w, rfl, rfl, sqT_mono hs.fz h1, hw, fin r⟩ hsub
    · simp only [Rel] at hx
      obtain ⟨a, vs, rfl, h1, h2⟩ := hx
      obtain ⟨w, hw, r⟩ := atI_rel h2 hf
      exact ix_list value slice pins s σ H _ _ v u Q I rx ry ⟨a, vs, i, w, rfl, rfl, .inl (.inl (hs.fz _ _ h1)), hw, fin r⟩ hsub
    · simp only [Rel] at hx
      obtain ⟨a, vs, rfl, h1, h2⟩ := hx
      obtain ⟨w, hw, r⟩ := atI_rel h2 hf
      exact ix_list value slice pins s σ H _ _ v u Q I rx ry ⟨a, vs, i, w, rfl, rfl, sqL_mono hs.fz h1, hw, fin r⟩ hsub
    · split at hf
      · rename_i hz
        obtain ⟨c, hc, rfl⟩ := Option.map_eq_some_iff.mp hf
        rw [relStr hx] at rx
        exact ix_str value slice pins s σ H _ _ v u Q I rx ry ⟨_, i, c, rfl, rfl, lim_le hz, hc, fin (by simp only [Rel])⟩ hsub
      · cases hf
    · split at hf
      · rename_i k _ xs e
        simp only [Rel] at hx
        obtain ⟨a, rfl, h1⟩ := hx
        obtain ⟨vs, e2, h2⟩ := hs.ok k _ a e h1
        obtain ⟨w, hw, r⟩ := atI_rel h2 hf
        exact ix_list value slice pins s σ H _ _ v u Q I rx ry ⟨a, vs, i, w, rfl, rfl, .inl (.inl e2), hw, fin r⟩ hsub
      · cases hf
    · cases hf
  · cases hf
theorem pst_cells {σ : St} {σi : List SV} {F : Hp} {ρ : List Addr} {H : Hp} {cs : List Cell} {Q : VK} {f : List Cell → Option IV} (h : Pst g W σ (Rel g) F ρ H (eCells f n σi cs) Q) :
    ∃ z, f cs = some z ∧ ∀ F' ρ' H' v, Stp F ρ H F' ρ' H' → Sim g F' ρ' cs H' → Rel g F' ρ' z v → Q v H' := by
  unfold eCells at h
  cases e : f cs with
  | none => rw [e] at h; exact h.elim
  | some z => rw [e] at h; exact ⟨z, rfl, h⟩
theorem e2c_run {f : List Cell → IV → IV → Option IV} {σ : St} {H : Hp} {Q : VK} (h : tG g n W (Rel g) (e2c f ma mb) σ H Q) : tOp (rJc g f) (tG g n W (Rel g) ma) (tG g n W (Rel g) mb) σ H Q := by
  obtain ⟨F, ρ, cs, σi, hs, hl, hp⟩ := h
  refine go hs hl hp fun x H1 F1 ρ1 cs1 xi st1 hs1 hl1 rx hp1 => ?_
  refine go hs1 hl1 hp1 fun y H2 F2 ρ2 cs2 yi st2 hs2 hl2 ry hp2 => ?_
  obtain ⟨z, q, hq⟩ := pst_cells (f := fun cs => f cs xi yi) hp2
  exact ⟨F2, ρ2, cs2, xi, yi, z, hs2, rx.stp st2, ry, q, hq⟩
theorem je_ix (ha : JE X n W a ma) (hb : JE X n W b mb) (hs : PlainIx b := by exact fun _ _ => rfl) : JE X n W (.Subscript a b pos) (e2c ixI ma mb) := pe_imp (pe_ix ij_ix ha hb hs) fun σ H Q q => e2c_run q

/-! ### slices -/
abbrev RO : RR (Option Int) (Option Int) := fun _ _ a b => a = b
def JO (X : Cx) (n : Nat) (W : WX) (e : Option Expr) (m : M (Option Int)) : Prop := PO X e (tG (gx X) n W RO m)
theorem po_imp {X : Cx} {e : Option Expr} {t t' : TO} (h : PO X e t) (i : ∀ σ H Q, t' σ H Q → t σ H Q) : PO X e t' := ⟨fun pins s σ H Q I q => h.run pins s σ H Q I (i σ H Q q)⟩
theorem jo_none : JO X n W none oNone := po_imp po_none fun σ H Q q => by
  obtain ⟨F, ρ, cs, σi, hs, hl, hp⟩ := q
  exact hp F ρ H none StpU.refl hs rfl
theorem jo_some (h : JE X n W a m) : JO X n W (some a) (oSome m) := po_imp (po_some h) fun σ H Q q => by
  obtain ⟨F, ρ, cs, σi, hs, hl, hp⟩ := q
  refine go hs hl hp fun v H1 F1 ρ1 cs1 x st1 hs1 hl1 r1 hp1 => ?_
  obtain ⟨z, hz, hq⟩ := pst_opt (o := (asInt x).map some) hp1
  obtain ⟨i, hi, rfl⟩ := Option.map_eq_some_iff.mp hz
  cases x with
  | int j => cases hi; exact ⟨i, relInt r1, hq F1 ρ1 H1 _ StpU.refl hs1 rfl⟩
  | _ => cases hi
theorem cut_rel {F : Hp} {ρ : List Addr} {xs : List IV} {vs : List V} (r : RelL g F ρ xs vs) (lo hi : Option Int) : RelL g F ρ (cut xs lo hi) (cutV vs lo hi) := by
  unfold cut cutV
  rw [r.len]
  exact (r.drop _).take _
theorem cut_whole {α : Type} {xs : List α} {lo hi : Option Int} (h : HT.sIx xs.length 0 lo = 0 ∧ HT.sIx xs.length xs.length hi = xs.length) : cut xs lo hi = xs := by
  unfold cut
  rw [h.1, h.2, List.drop_zero, Nat.sub_zero, List.take_length]
def rSlJ (g : Gx) : V → Option Int → Option Int → Hp → VK → Prop := fun x lo hi H Q => ∃ F ρ cs xi z, Sim g F ρ cs H ∧ Rel g F ρ xi x ∧ slI xi lo hi = some z ∧ ∀ F' ρ' H' v, Stp F ρ H F' ρ' H' → Sim g F' ρ' cs H' → Rel g F' ρ' z v → Q v H'
theorem sj_sl : SlR X (rSlJ (gx X)) := by
  intro pins s σ H x v vl vu lo hi sl Q I rx hsl pl pu h
  obtain ⟨F, ρ, cs, xi, z, hs, hx, hf, q⟩ := h
  unfold slI at hf
  split at hf
  · rename_i xs
    cases hf
    simp only [Rel] at hx
    obtain ⟨a, vs, rfl, h1, h2⟩ := hx
    refine sl_tupA pins s σ H _ v vl vu lo hi sl Q I rx hsl pl pu ⟨a, vs, rfl, sqT_mono hs.fz h1, fun hw => ?_, fun _ p hp => ?_⟩
    · refine q F ρ H _ StpU.refl hs ?_
      rw [cut_whole (by rw [h2.len]; exact hw)]
      simp only [Rel]
      exact ⟨a, vs, rfl, h1, h2⟩
    · obtain ⟨hs', st⟩ := hs.new (o := .tup (cutV vs lo hi)) hp
      exact q _ _ _ _ st hs' (by simp only [Rel]; exact ⟨p, _, rfl, .inl (.inl upd_same), (cut_rel h2 lo hi).stp st⟩)
  · cases hf
    simp only [Rel] at hx
    obtain ⟨a, vs, rfl, h1, h2⟩ := hx
    refine sl_list pins s σ H _ v vl vu lo hi sl Q I rx hsl pl pu ⟨a, vs, rfl, .inl (.inl (hs.fz _ _ h1)), fun p hp => ?_⟩
    obtain ⟨hs', st⟩ := hs.new (o := .lst (cutV vs lo hi)) hp
    exact q _ _ _ _ st hs' (by simp only [Rel]; exact ⟨p, _, rfl, upd_same, (cut_rel h2 lo hi).stp st⟩)
  · cases hf
    simp only [Rel] at hx
    obtain ⟨a, vs, rfl, h1, h2⟩ := hx
    refine sl_list pins s σ H _ v vl vu lo hi sl Q I rx hsl pl pu ⟨a, vs, rfl, sqL_mono hs.fz h1, fun p hp => ?_⟩
    obtain ⟨hs', st⟩ := hs.new (o := .lst (cutV vs lo hi)) hp
    exact q _ _ _ _ st hs' (by simp only [Rel]; exact ⟨p, _, rfl, upd_same, (cut_rel h2 lo hi).stp st⟩)
  · split at hf
    · rename_i hz
      cases hf
      rw [relStr hx] at rx
      exact sl_str pins s σ H _ v vl vu lo hi sl Q I rx hsl pl pu ⟨_, rfl, lim_le hz, q F ρ H _ StpU.refl hs (by simp only [Rel])⟩
    · cases hf
  · cases hf
theorem je_sl {lo hi : Option Expr} {ml mh : M (Option Int)} {p2 : Pos} (ha : JE X n W a ma) (hl : JO X n W lo ml) (hh : JO X n W hi mh) : JE X n W (.Subscript a (.Slice lo hi none p2) pos) (eSl ma ml mh) := by
  refine pe_imp (pe_slice sj_sl ha hl hh) fun σ H Q q => ?_
  obtain ⟨F, ρ, cs, σi, hs, hl, hp⟩ := q
  refine go hs hl hp fun v H1 F1 ρ1 cs1 x st1 hs1 hl1 r1 hp1 => ?_
  refine go hs1 hl1 hp1 fun l H2 F2 ρ2 cs2 li st2 hs2 hl2 r2 hp2 => ?_
  refine go hs2 hl2 hp2 fun u H3 F3 ρ3 cs3 ui st3 hs3 hl3 r3 hp3 => ?_
  have r2' : li = l := r2
  have r3' : ui = u := r3
  subst r2' r3'
  obtain ⟨z, hz, hq⟩ := pst_opt (o := slI x li ui) hp3
  exact ⟨F3, ρ3, cs3, x, z, hs3, (r1.stp st2).stp st3, hz, hq⟩
theorem je_revL {k : Nat} {p1 p2 p3 : Pos} (ha : JE X n W a ma) : JE X n W (.Subscript a (.Slice none none (some (.UnaryOp .USub (.Constant (.int 1) k p1) p2)) p3) pos) (eRevL ma) := by
  refine pe_imp (pe_revL ha) fun σ H Q q => ?_
  obtain ⟨F, ρ, cs, σi, hs, hl, hp⟩ := q
  refine go hs hl hp fun v H1 F1 ρ1 cs1 x st1 hs1 hl1 r1 hp1 => ?_
  obtain ⟨z, hz, hq⟩ := pst_opt (o := match x with | .lst xs => some (IV.lst xs.reverse) | .rol xs => some (.lst xs.reverse) | _ => none) hp1
  cases x with
  | lst xs =>
    cases hz
    simp only [Rel] at r1
    obtain ⟨a, vs, rfl, h1, h2⟩ := r1
    refine ⟨a, vs, rfl, .inl (.inl (hs1.fz _ _ h1)), fun p hp => ?_⟩
    obtain ⟨hs', st⟩ := hs1.new (o := .lst vs.reverse) hp
    exact hq _ _ _ _ st hs' (by simp only [Rel]; exact ⟨p, _, rfl, upd_same, h2.reverse.stp st⟩)
  | rol xs =>
    cases hz
    simp only [Rel] at r1
    obtain ⟨a, vs, rfl, h1, h2⟩ := r1
    refine ⟨a, vs, rfl, sqL_mono hs1.fz h1, fun p hp => ?_⟩
    obtain ⟨hs', st⟩ := hs1.new (o := .lst vs.reverse) hp
    exact hq _ _ _ _ st hs' (by simp only [Rel]; exact ⟨p, _, rfl, upd_same, h2.reverse.stp st⟩)
  | _ => cases hz

/-! ### built-in functions by name -/
/-- a call of a known callee by values -/
def rCJ (g : Gx) (f : List Cell → List IV → Option IV) : List V → Hp → VK → Prop := fun vs H Q => ∃ F ρ cs xs z, Sim g F ρ cs H ∧ RelL g F ρ xs vs ∧ f cs xs = some z ∧ ∀ F' ρ' H' v, Stp F ρ H F' ρ' H' → Sim g F' ρ' cs H' → Rel g F' ρ' z v → Q v H'
def eCall (f : List Cell → List IV → Option IV) (a : M (List IV)) : M IV := a.bind fun xs => eCells fun cs => f cs xs
theorem eCall_run {f : List Cell → List IV → Option IV} {σ : St} {H : Hp} {Q : VK} (h : tG g n W (Rel g) (eCall f mr) σ H Q) : tCB (rCJ g f) (tG g n W (RelL g) mr) σ H Q := by
  obtain ⟨F, ρ, cs, σi, hs, hl, hp⟩ := h
  refine go hs hl hp fun vs H1 F1 ρ1 cs1 xs st1 hs1 hl1 r1 hp1 => ?_
  obtain ⟨z, hz, hq⟩ := pst_cells (f := fun cs => f cs xs) hp1
  exact ⟨F1, ρ1, cs1, xs, z, hs1, r1, hz, hq⟩
theorem je_callB {x : Str} {p : Pos} {id : String} {f : List Cell → List IV → Option IV} (hc : CallR X (.builtin id) (rCJ (gx X) f)) (hm : X.mg x = none) (hv : bootBuiltins x = some (.builtin id)) (ha : JA X n W (a :: es) mr) (hg : Gl X x := by rfl) (hn : x ≠ "__name__" := by decide)
    (hdb : (x == ("__debug__" : Str)) = false := by decide) (he : starEach (a :: es) X.env = (false, eval a X.env) :: starEach es X.env := by rfl) (hpl : (backTo pos (starEach es X.env)).any (·.1) = false := by rfl) : JE X n W (.Call (.Name x p) (a :: es) [] pos) (eCall f mr) :=
  pe_imp (pe_callB hc hg hm hv ha hn hdb he hpl) fun σ H Q q => eCall_run q
theorem je_callTy {x : Str} {p : Pos} {T : String} {f : List Cell → List IV → Option IV} (hc : CallR X (.type T) (rCJ (gx X) f)) (hm : X.mg x = none) (hv : bootBuiltins x = some (.type T)) (ha : JA X n W (a :: es) mr) (hg : Gl X x := by rfl) (hn : x ≠ "__name__" := by decide)
    (hdb : (x == ("__debug__" : Str)) = false := by decide) (he : starEach (a :: es) X.env = (false, eval a X.env) :: starEach es X.env := by rfl) (hpl : (backTo pos (starEach es X.env)).any (·.1) = false := by rfl) : JE X n W (.Call (.Name x p) (a :: es) [] pos) (eCall f mr) :=
  pe_imp (pe_callTy hc hg hm hv ha hn hdb he hpl) fun σ H Q q => eCall_run q
theorem relL1 {F : Hp} {ρ : List Addr} {x : IV} {vs : List V} (h : RelL g F ρ [x] vs) : ∃ v, vs = [v] ∧ Rel g F ρ x v := by
  simp only [RelL] at h
  obtain ⟨v, r, rfl, h1, rfl⟩ := h
  exact ⟨v, rfl, h1⟩
theorem relL2 {F : Hp} {ρ : List Addr} {x y : IV} {vs : List V} (h : RelL g F ρ [x, y] vs) : ∃ v w, vs = [v, w] ∧ Rel g F ρ x v ∧ Rel g F ρ y w := by
  simp only [RelL] at h
  obtain ⟨v, r, rfl, h1, w, r2, rfl, h2, rfl⟩ := h
  exact ⟨v, w, rfl, h1, h2⟩
def fLen : List Cell → List IV → Option IV
  | _, [.str s] => if s.length ≤ lim then some (.int s.length) else none
  | _, [.tup xs] => some (.int xs.length)
  | _, [.lst xs] => some (.int xs.length)
  | _, [.rol xs] => some (.int xs.length)
  | _, [.dct ks xs] => some (.int ks.length)
  | cs, [.cell k] => match cs[k]? with
    | some (.lst xs) => some (.int xs.length)
    | _ => none
  | _, _ => none
theorem call_lenRd : CallR X (.builtin "len") (fun xs H Q => ∃ a kvs, xs = [V.ref a] ∧ Rd H a (.dK kvs) ∧ Q (.int kvs.length) H) := by
  intro pins s σ H xs us Q I r h
  obtain ⟨a, kvs, rfl, ha, q⟩ := h
  obtain ⟨u, rfl, ru⟩ := vals1 r
  obtain rfl : u = Value.ref a := ru
  exact d_len I ha fun t s' I' => ⟨.int kvs.length, H, I', ⟨t, rfl⟩, q⟩
theorem cj_len : CallR X (.builtin "len") (rCJ (gx X) fLen) := by
  intro pins s σ H vs us Q I r h
  obtain ⟨F, ρ, cs, xs, z, hs, hx, hf, q⟩ := h
  have fin : ∀ i : Int, z = .int i → Q (.int i) H := fun i e => q F ρ H _ StpU.refl hs (by rw [e]; simp only [Rel])
  unfold fLen at hf
  split at hf
  · split at hf
    · rename_i hz
      cases hf
      obtain ⟨v, rfl, h1⟩ := relL1 hx
      rw [relStr h1] at r
      exact call_len_str pins s σ H _ us Q I r ⟨_, rfl, lim_le hz, fin _ rfl⟩
    · cases hf
  · cases hf
    obtain ⟨v, rfl, h1⟩ := relL1 hx
    simp only [Rel] at h1
    obtain ⟨a, ws, rfl, h1, h2⟩ := h1
    exact call_len_seq pins s σ H _ us Q I r ⟨a, ws, rfl, .inr (sqT_mono hs.fz h1), fin _ (by rw [h2.len])⟩
  · cases hf
    obtain ⟨v, rfl, h1⟩ := relL1 hx
    simp only [Rel] at h1
    obtain ⟨a, ws, rfl, h1, h2⟩ := h1
    exact call_len_seq pins s σ H _ us Q I r ⟨a, ws, rfl, .inl (.inl (.inl (hs.fz _ _ h1))), fin _ (by rw [h2.len])⟩
  · cases hf
    obtain ⟨v, rfl, h1⟩ := relL1 hx
    simp only [Rel] at h1
    obtain ⟨a, ws, rfl, h1, h2⟩ := h1
    exact call_len_seq pins s σ H _ us Q I r ⟨a, ws, rfl, .inl (sqL_mono hs.fz h1), fin _ (by rw [h2.len])⟩
  · cases hf
    obtain ⟨v, rfl, h1⟩ := relL1 hx
    simp only [Rel] at h1
    obtain ⟨a, ws, rfl, hl, h1, h2⟩ := h1
    obtain ⟨fo, h1⟩ := h1
    refine call_lenRd pins s σ H _ us Q I r ⟨a, _, rfl, .inr ⟨fo, hs.fz _ _ h1⟩, fin _ ?_⟩
    rw [List.length_zip, hl]
    simp
  · split at hf
    · rename_i k _ ys e
      cases hf
      obtain ⟨v, rfl, h1⟩ := relL1 hx
      simp only [Rel] at h1
      obtain ⟨a, rfl, h1⟩ := h1
      obtain ⟨ws, e2, h2⟩ := hs.ok k _ a e h1
      exact call_len_seq pins s σ H _ us Q I r ⟨a, ws, rfl, .inl (.inl (.inl e2)), fin _ (by rw [h2.len])⟩
    · cases hf
  · cases hf
def fAbs : List Cell → List IV → Option IV
  | _, [.int i] => some (.int (if i < 0 then -i else i))
  | _, _ => none
theorem cj_abs : CallR X (.builtin "abs") (rCJ (gx X) fAbs) := by
  intro pins s σ H vs us Q I r h
  obtain ⟨F, ρ, cs, xs, z, hs, hx, hf, q⟩ := h
  unfold fAbs at hf
  split at hf
  · cases hf
    obtain ⟨v, rfl, h1⟩ := relL1 hx
    rw [relInt h1] at r
    exact call_abs pins s σ H _ us Q I r ⟨_, rfl, q F ρ H _ StpU.refl hs (by simp only [Rel])⟩
  · cases hf
def fMax2 : List Cell → List IV → Option IV
  | _, [.int i, .int j] => some (.int (if j > i then j else i))
  | _, _ => none
theorem cj_max2 (hc : X.calm = true) : CallR X (.builtin "max") (rCJ (gx X) fMax2) := by
  intro pins s σ H vs us Q I r h
  obtain ⟨F, ρ, cs, xs, z, hs, hx, hf, q⟩ := h
  unfold fMax2 at hf
  split at hf
  · cases hf
    obtain ⟨v, w, rfl, h1, h2⟩ := relL2 hx
    rw [relInt h1, relInt h2] at r
    exact call_max2 hc pins s σ H _ us Q I r ⟨_, _, rfl, q F ρ H _ StpU.refl hs (by simp only [Rel])⟩
  · cases hf
def fInt : List Cell → List IV → Option IV
  | _, [.int i] => some (.int i)
  | _, [.bl b] => some (.int (if b then 1 else 0))
  | _, _ => none
theorem cj_int : CallR X (.type "int") (rCJ (gx X) fInt) := by
  intro pins s σ H vs us Q I r h
  obtain ⟨F, ρ, cs, xs, z, hs, hx, hf, q⟩ := h
  unfold fInt at hf
  split at hf
  · cases hf
    obtain ⟨v, rfl, h1⟩ := relL1 hx
    rw [relInt h1] at r
    exact call_int1 pins s σ H _ us Q I r (.inl ⟨_, rfl, q F ρ H _ StpU.refl hs (by simp only [Rel])⟩)
  · cases hf
    obtain ⟨v, rfl, h1⟩ := relL1 hx
    rw [relBl h1] at r
    exact call_int1 pins s σ H _ us Q I r (.inr ⟨_, rfl, q F ρ H _ StpU.refl hs (by simp only [Rel])⟩)
  · cases hf
def fTuple : List Cell → List IV → Option IV
  | _, [.tup xs] => some (.tup xs)
  | _, [.lst xs] => some (.tup xs)
  | _, [.rol xs] => some (.tup xs)
  | _, _ => none
theorem cj_tuple : CallR X (.type "tuple") (rCJ (gx X) fTuple) := by
  intro pins s σ H vs us Q I r h
  obtain ⟨F, ρ, cs, xs, z, hs, hx, hf, q⟩ := h
  unfold fTuple at hf
  split at hf
  · cases hf
    obtain ⟨v, rfl, h1⟩ := relL1 hx
    have h1' := h1
    simp only [Rel] at h1
    obtain ⟨a, ws, rfl, h1, h2⟩ := h1
    exact call_tuple_of pins s σ H _ us Q I r ⟨a, ws, rfl, .inr ⟨sqT_mono hs.fz h1, q F ρ H _ StpU.refl hs h1'⟩⟩
  · cases hf
    obtain ⟨v, rfl, h1⟩ := relL1 hx
    simp only [Rel] at h1
    obtain ⟨a, ws, rfl, h1, h2⟩ := h1
    refine call_tuple_of pins s σ H _ us Q I r ⟨a, ws, rfl, .inl ⟨.inl (.inl (hs.fz _ _ h1)), fun p hp => ?_⟩⟩
    obtain ⟨hs', st⟩ := hs.new (o := .tup ws) hp
    exact q _ _ _ _ st hs' (by simp only [Rel]; exact ⟨p, _, rfl, .inl (.inl upd_same), h2.stp st⟩)
  · cases hf
    obtain ⟨v, rfl, h1⟩ := relL1 hx
    simp only [Rel] at h1
    obtain ⟨a, ws, rfl, h1, h2⟩ := h1
    refine call_tuple_of pins s σ H _ us Q I r ⟨a, ws, rfl, .inl ⟨sqL_mono hs.fz h1, fun p hp => ?_⟩⟩
    obtain ⟨hs', st⟩ := hs.new (o := .tup ws) hp
    exact q _ _ _ _ st hs' (by simp only [Rel]; exact ⟨p, _, rfl, .inl (.inl upd_same), h2.stp st⟩)
  · cases hf
def fList : List Cell → List IV → Option IV
  | _, [.tup xs] => some (.lst xs)
  | _, [.lst xs] => some (.lst xs)
  | _, [.rol xs] => some (.lst xs)
  | _, _ => none
theorem cj_list : CallR X (.type "list") (rCJ (gx X) fList) := by
  intro pins s σ H vs us Q I r h
  obtain ⟨F, ρ, cs, xs, z, hs, hx, hf, q⟩ := h
  unfold fList at hf
  split at hf
  · cases hf
    obtain ⟨v, rfl, h1⟩ := relL1 hx
    simp only [Rel] at h1
    obtain ⟨a, ws, rfl, h1, h2⟩ := h1
    refine call_list_of pins s σ H _ us Q I r ⟨a, ws, rfl, .inr (sqT_mono hs.fz h1), fun p hp => ?_⟩
    obtain ⟨hs', st⟩ := hs.new (o := .lst ws) hp
    exact q _ _ _ _ st hs' (by simp only [Rel]; exact ⟨p, _, rfl, upd_same, h2.stp st⟩)
  · cases hf
    obtain ⟨v, rfl, h1⟩ := relL1 hx
    simp only [Rel] at h1
    obtain ⟨a, ws, rfl, h1, h2⟩ := h1
    refine call_list_of pins s σ H _ us Q I r ⟨a, ws, rfl, .inl (.inl (.inl (hs.fz _ _ h1))), fun p hp => ?_⟩
    obtain ⟨hs', st⟩ := hs.new (o := .lst ws) hp
    exact q _ _ _ _ st hs' (by simp only [Rel]; exact ⟨p, _, rfl, upd_same, h2.stp st⟩)
  · cases hf
    obtain ⟨v, rfl, h1⟩ := relL1 hx
    simp only [Rel] at h1
    obtain ⟨a, ws, rfl, h1, h2⟩ := h1
    refine call_list_of pins s σ H _ us Q I r ⟨a, ws, rfl, .inl (sqL_mono hs.fz h1), fun p hp => ?_⟩
    obtain ⟨hs', st⟩ := hs.new (o := .lst ws) hp
    exact q _ _ _ _ st hs' (by simp only [Rel]; exact ⟨p, _, rfl, upd_same, h2.stp st⟩)
  · cases hf
def blsOf : List IV → Option (List Bool)
  | [] => some []
  | .bl b :: r => (blsOf r).map (b :: ·)
  | _ => none
theorem bls_rel {F : Hp} {ρ : List Addr} : ∀ {xs : List IV} {vs : List V} {bs : List Bool}, RelL g F ρ xs vs → blsOf xs = some bs → vs = bs.map V.bl
  | [], vs, bs, h, e => by
    simp only [RelL] at h
    simp only [blsOf, Option.some.injEq] at e
    subst h e
    rfl
  | x :: xs, vs, bs, h, e => by
    simp only [RelL] at h
    obtain ⟨v, r, rfl, h1, h2⟩ := h
    cases x with
    | bl b =>
      simp only [blsOf] at e
      obtain ⟨bs', e1, rfl⟩ := Option.map_eq_some_iff.mp e
      rw [relBl h1, bls_rel h2 e1]
      rfl
    | _ => simp only [blsOf] at e; cases e
def fAll : List Cell → List IV → Option IV
  | _, [.lst xs] => (blsOf xs).map fun bs => .bl (bs.all id)
  | _, _ => none
theorem cj_all (hc : X.calm = true) : CallR X (.builtin "all") (rCJ (gx X) fAll) := by
  intro pins s σ H vs us Q I r h
  obtain ⟨F, ρ, cs, xs, z, hs, hx, hf, q⟩ := h
  unfold fAll at hf
  split at hf
  · obtain ⟨bs, hb, rfl⟩ := Option.map_eq_some_iff.mp hf
    obtain ⟨v, rfl, h1⟩ := relL1 hx
    simp only [Rel] at h1
    obtain ⟨a, ws, rfl, h1, h2⟩ := h1
    have e := bls_rel h2 hb
    subst e
    exact cr_all hc pins s σ H _ us Q I r ⟨a, bs, rfl, .inl (.inl (hs.fz _ _ h1)), q F ρ H _ StpU.refl hs (by simp only [Rel])⟩
  · cases hf
def fRepr : List Cell → List IV → Option IV
  | _, [x] => reprOf x
  | _, _ => none
theorem cj_repr (hg : X.A.guards = some []) (hu : X.A.units + 64 < cLine) : CallR X (.builtin "repr") (rCJ (gx X) fRepr) := by
  intro pins s σ H vs us Q I r h
  obtain ⟨F, ρ, cs, xs, z, hs, hx, hf, q⟩ := h
  unfold fRepr at hf
  split at hf
  · rename_i x
    obtain ⟨v, rfl, h1⟩ := relL1 hx
    unfold reprOf at hf
    split at hf
    · rename_i d hd
      split at hf
      · rename_i hh
        obtain ⟨c1, c3, c4⟩ := hh
        cases hf
        cases r with
        | cons r1 r2 =>
          cases r2
          refine repr_any (Rel.reads I hs.fz x h1 r1 hd) c1 hg hu c3 (lim_le c4) fun h' u tk hk => ?_
          exact ⟨.str d.shown, H, I.kept hk, ⟨_, rfl⟩, q F ρ H _ StpU.refl hs (by simp only [Rel])⟩
      · cases hf
    · cases hf
  · cases hf
end
end SL

set_option Elab.async false
set_option linter.all false
set_option autoImplicit false
set_option maxRecDepth 100000
set_option maxHeartbeats 4000000
/-! SLCall: defs of the text by their mirrors; isinstance. -/
namespace SL
open PySem PySem.Spec L2
open PyProof.Rows hiding St

/-- what a call by values promises -/
def spM (g : Gx) (n : Nat) (fm : FM) (vs : List V) (H : Hp) (Q : VK) (E : XK) : Prop :=
  ∃ F ρ cs xs, Sim g F ρ cs H ∧ RelL g F ρ xs vs ∧ Pst g (fun cls d _ H' => E cls d H') [] (Rel g) F ρ H (fm n xs cs) Q
/-- the def at f does as its mirror fm -/
structure FnG (P : Program) (w : World) (K : PySem.W.Frag) (mg : Str → Option Value) (base : Heap) (n k : Nat) (f : Addr) (fd : FuncData) (ps : List Str) (fm : FM) : Prop where
  run : ∀ (A : Around) (outer : List Env) (s : Shared) (H : Hp) (args : Args) (us : List Value) (vs : List V) (Q : VK) (E : XK), Room k A → A.guards = some [] → Env0 P w K mg base A outer s H → BindsTo s fd args (ps.zip us) → Vals vs us → vs.length = ps.length →
    spM (gK K mg) n fm vs H Q E → codeAny (model P w) A (.call (.ref f) args) (CR (L2.CX P w) outer P w H s Q E) s
/-- the module's name x is such a def; dxs: what its defaults are -/
def DefG (P : Program) (w : World) (K : PySem.W.Frag) (mg : Str → Option Value) (base : Heap) (n k : Nat) (x : Str) (ps : List Str) (dxs : List IV) (fm : FM) : Prop :=
  ∃ f fd ds dvs, mg x = some (.ref f) ∧ PySem.W.keepIn K (.ref f) = true ∧ Binds K fd ps ds ∧ Vals dvs ds ∧ (∀ F ρ, RelL (gK K mg) F ρ dxs dvs) ∧ FnG P w K mg base n k f fd ps fm

def eFn (fm : FM) (np : Nat) (dxs : List IV) (a : M (List IV)) : M IV := a.bind fun xs => fun n _ cs => if (xs ++ dxs).length = np then fm n (xs ++ dxs) cs else .stuck
section
variable {X : Cx} {n k : Nat} {W : WX} {x : Str} {ps : List Str} {dxs : List IV} {fm : FM} {p pos : Pos} {e : Expr} {es : List Expr} {ma : M (List IV)}
theorem Pst.out {g : Gx} {W W' : WX} {σ σ' : St} {α β : Type} {R : RR α β} {F : Hp} {ρ : List Addr} {H : Hp} {r : Res α} {Q : β → Hp → Prop} (h : Pst g W σ R F ρ H r Q) (hw : ∀ cls d H', W cls d σ H' → W' cls d σ' H') : Pst g W' σ' R F ρ H r Q := by
  cases r with
  | ok x cs' => exact h
  | ex e cs' => exact fun F' ρ' H' cls d a b c => hw _ _ _ (h F' ρ' H' cls d a b c)
  | stuck => exact h
theorem fn_run {f : Addr} {fd : FuncData} {ds : List Value} {dvs : List V} (hb : Binds X.K fd ps ds) (hd : Vals dvs ds) (rd : ∀ F ρ, RelL (gx X) F ρ dxs dvs) (G : FnG X.prog X.w X.K X.mg X.base n k f fd ps fm) (hr : Room k X.A) (hgd : X.A.guards = some []) (tk : Takes X W)
    {pins : List (Addr × Obj)} {σ : St} {H : Hp} {s : Shared} {Q : VK} {us : List Value} {vs : List V} (I : Inv X pins σ H s) (r : Vals vs us)
    (h : ∃ F ρ cs xs, Sim (gx X) F ρ cs H ∧ RelL (gx X) F ρ xs vs ∧ (xs ++ dxs).length = ps.length ∧ Pst (gx X) W σ (Rel (gx X)) F ρ H (fm n (xs ++ dxs) cs) Q) :
    wpAny (model X.prog X.w) X.A (call (.ref f) us) (EP X pins σ Q) X.xe s := by
  obtain ⟨F, ρ, cs, xs, hs, rx, hl, hp⟩ := h
  have r2 : Vals (vs ++ dvs) (us ++ ds) := r.append hd
  have rx2 := rx.append (rd F ρ)
  have hl2 : (vs ++ dvs).length = ps.length := by rw [← rx2.len]; exact hl
  have hl3 : (us ++ ds).length = ps.length := by rw [← r2.length]; exact hl2
  refine wpAny_call (codeAny_mono (G.run X.A X.stack s H ⟨us, []⟩ (us ++ ds) (vs ++ dvs) Q (WE W σ) hr hgd I.env0 (hb s us I.kIn hl3) r2 hl2 ⟨F, ρ, cs, xs ++ dxs, hs, rx2, hp.out fun _ _ _ z => z⟩) fun r s' hq => ?_)
  cases r with
  | error e => exact passAt tk σ pins H s e s' I hq
  | ok fl =>
    cases fl with
    | ret u => exact I.after hq
    | next => exact False.elim hq
    | brk => exact False.elim hq
    | cont => exact False.elim hq
theorem eFn_run {g : Gx} {np : Nat} {σ : St} {H : Hp} {Q : VK} (h : tG g n W (Rel g) (eFn fm np dxs ma) σ H Q) :
    tG g n W (RelL g) ma σ H fun vs H1 => ∃ F ρ cs xs, Sim g F ρ cs H1 ∧ RelL g F ρ xs vs ∧ (xs ++ dxs).length = np ∧ Pst g W σ (Rel g) F ρ H1 (fm n (xs ++ dxs) cs) Q := by
  obtain ⟨F, ρ, cs, σi, hs, hl, hp⟩ := h
  refine go hs hl hp fun vs H1 F1 ρ1 cs1 xs st1 hs1 hl1 r1 hp1 => ?_
  replace hp1 : Pst g W σ (Rel g) F1 ρ1 H1 (if (xs ++ dxs).length = np then fm n (xs ++ dxs) cs1 else .stuck) Q := hp1
  by_cases hn : (xs ++ dxs).length = np
  · rw [if_pos hn] at hp1
    exact ⟨F1, ρ1, cs1, xs, hs1, r1, hn, hp1⟩
  · rw [if_neg hn] at hp1
    exact hp1.elim
theorem je_call {np : Nat} (D : DefG X.prog X.w X.K X.mg X.base n k x ps dxs fm) (hr : Room k X.A) (hgd : X.A.guards = some []) (tk : Takes X W) (ha : JA X n W (e :: es) ma) (hg : Gl X x := by rfl) (hdb : (x == ("__debug__" : Str)) = false := by decide)
    (he : starEach (e :: es) X.env = (false, eval e X.env) :: starEach es X.env := by rfl) (hpl : (backTo pos (starEach es X.env)).any (·.1) = false := by rfl) (hnp : ps.length = np := by rfl) : JE X n W (.Call (.Name x p) (e :: es) [] pos) (eFn fm np dxs ma) := by
  subst hnp
  obtain ⟨f, fd, ds, dvs, hm, hk, hb, hd, rd, G⟩ := D
  refine ⟨fun pins s σ H Q I h => ?_⟩
  refine wpAny_Call_Name_kw (ld_glob I hg hm ?_ hdb)
  exact PySem.W.callWith_K (h₀ := X.base) I.ok.mod.kin hk (thn (ha.run pos pins s σ H _ I (eFn_run h)) fun us s1 ⟨vs, H1, I1, r, q⟩ => ⟨I1.kIn, fn_run hb hd rd G hr hgd tk I1 r q⟩) he hpl
theorem je_call0 {np : Nat} (D : DefG X.prog X.w X.K X.mg X.base n k x ps dxs fm) (hr : Room k X.A) (hgd : X.A.guards = some []) (tk : Takes X W) (hg : Gl X x := by rfl) (hdb : (x == ("__debug__" : Str)) = false := by decide) (hnp : ps.length = np := by rfl) : JE X n W (.Call (.Name x p) [] [] pos) (eFn fm np dxs aNil) := by
  subst hnp
  obtain ⟨f, fd, ds, dvs, hm, hk, hb, hd, rd, G⟩ := D
  refine ⟨fun pins s σ H Q I h => ?_⟩
  refine wpAny_Call_Name_kw (ld_glob I hg hm ?_ hdb)
  obtain ⟨F, ρ, cs, σi, hs, hl, hp⟩ := h
  have hp1 : Pst (gx X) W σ (Rel (gx X)) F ρ H (if ([] ++ dxs).length = ps.length then fm n ([] ++ dxs) cs else .stuck) Q := hp
  by_cases hn : ([] ++ dxs).length = ps.length
  · rw [if_pos hn] at hp1
    exact PySem.W.callWith_K0 I.kIn hk (fn_run hb hd rd G hr hgd tk I .nil ⟨F, ρ, cs, [], hs, .nil, hn, hp1⟩)
  · rw [if_neg hn] at hp1
    exact hp1.elim
end

/-! ### isinstance -/
def tyI (cs : List Cell) : IV → Option String
  | .non => some "NoneType"
  | .bl _ => some "bool"
  | .int _ => some "int"
  | .str _ => some "str"
  | .tup _ => some "tuple"
  | .lst _ => some "list"
  | .rol _ => some "list"
  | .dct _ _ => some "dict"
  | .cell k => match cs[k]? with
    | some (.lst _) => some "list"
    | some (.dct _ _) => some "dict"
    | _ => none
  | _ => none
def isiTab (a b : String) : Option Bool := match a, b with
  | "NoneType", "int" => some false | "bool", "int" => some true | "int", "int" => some true | "str", "int" => some false | "tuple", "int" => some false | "list", "int" => some false | "dict", "int" => some false
  | "NoneType", "bool" => some false | "bool", "bool" => some true | "int", "bool" => some false | "str", "bool" => some false | "tuple", "bool" => some false | "list", "bool" => some false | "dict", "bool" => some false
  | "NoneType", "str" => some false | "bool", "str" => some false | "int", "str" => some false | "str", "str" => some true | "tuple", "str" => some false | "list", "str" => some false | "dict", "str" => some false
  | "NoneType", "tuple" => some false | "bool", "tuple" => some false | "int", "tuple" => some false | "str", "tuple" => some false | "tuple", "tuple" => some true | "list", "tuple" => some false | "dict", "tuple" => some false
  | "NoneType", "list" => some false | "bool", "list" => some false | "int", "list" => some false | "str", "list" => some false | "tuple", "list" => some false | "list", "list" => some true | "dict", "list" => some false
  | "NoneType", "dict" => some false | "bool", "dict" => some false | "int", "dict" => some false | "str", "dict" => some false | "tuple", "dict" => some false | "list", "dict" => some false | "dict", "dict" => some true
  | _, _ => none
theorem isiTab_ok {K : PySem.W.Frag} {a b : String} {r : Bool} (h : isiTab a b = some r) : PySem.W.kitOne K (.type a) (.type b) = some r := by
  refine kit_ty ?_
  unfold isiTab at h
  split at h <;> first | (cases h; done) | (cases h; decide +kernel)
theorem tyI_rel {g : Gx} {F : Hp} {ρ : List Addr} {cs : List Cell} {H : Hp} (hs : Sim g F ρ cs H) {x : IV} {v : V} {T : String} (r : Rel g F ρ x v) (h : tyI cs x = some T) : TyX g.K H v (.type T) := by
  unfold tyI at h
  split at h
  · cases h; rw [relNon r]; exact .base .non
  · cases h; rw [relBl r]; exact .base (.bl _)
  · cases h; rw [relInt r]; exact .base (.int _)
  · cases h; rw [relStr r]; exact .base (.str _)
  · cases h
    simp only [Rel] at r
    obtain ⟨a, vs, rfl, h1, _⟩ := r
    rcases sqT_mono hs.fz h1 with (h | ⟨o, h⟩) | ⟨o, its, n, hk, hc, _⟩
    · exact .base (.tup h)
    · exact .fTuple h
    · exact .kTuple hk hc
  · cases h
    simp only [Rel] at r
    obtain ⟨a, vs, rfl, h1, _⟩ := r
    exact .base (.lst (hs.fz _ _ h1))
  · cases h
    simp only [Rel] at r
    obtain ⟨a, vs, rfl, h1, _⟩ := r
    rcases sqL_mono hs.fz h1 with (h | ⟨o, h⟩) | ⟨o, its, n, hk, hc, _⟩
    · exact .base (.lst h)
    · exact .base (.frz h)
    · exact .kList hk hc
  · cases h
    simp only [Rel] at r
    obtain ⟨a, vs, rfl, _, h1, _⟩ := r
    obtain ⟨fo, h1⟩ := h1
    exact .fDict (hs.fz _ _ h1)
  · rename_i k
    simp only [Rel] at r
    obtain ⟨a, rfl, h1⟩ := r
    split at h
    · rename_i xs e
      cases h
      obtain ⟨ws, e2, _⟩ := hs.ok k _ a e h1
      exact .base (.lst e2)
    · rename_i ks xs e
      cases h
      obtain ⟨ws, e2, _⟩ := hs.ok k _ a e h1
      exact .base (.dK e2)
    · cases h
  · cases h
def fIsi : List Cell → List IV → Option IV
  | cs, [x, .ty T] => match tyI cs x with
    | some t => (isiTab t T).map .bl
    | none => none
  | _, _ => none
section
variable {X : Cx}
theorem cj_isi : CallR X (.builtin "isinstance") (rCJ (gx X) fIsi) := by
  intro pins s σ H vs us Q I r h
  obtain ⟨F, ρ, cs, xs, z, hs, hx, hf, q⟩ := h
  unfold fIsi at hf
  split at hf
  · rename_i x T
    split at hf
    · rename_i t ht
      obtain ⟨b, hb, rfl⟩ := Option.map_eq_some_iff.mp hf
      obtain ⟨v, w, rfl, h1, h2⟩ := relL2 hx
      have e := relTy h2
      subst e
      exact call_isi pins s σ H _ us Q I r ⟨v, _, _, _, b, rfl, .ty T, tyI_rel hs h1 ht, isiTab_ok hb, q F ρ H _ StpU.refl hs (by simp only [Rel])⟩
    · cases hf
  · cases hf
end
end SL

set_option Elab.async false
set_option linter.all false
set_option autoImplicit false
set_option maxRecDepth 100000
set_option maxHeartbeats 4000000
/-! SLStmt: statements. -/
namespace SL
open PySem PySem.Spec L2
open PyProof.Rows hiding St

section
variable {g : Gx} {n : Nat} {W : WX} {U U' : Addr → Prop} {F F' : Hp} {ρ ρ' : List Addr} {H H' : Hp} {σ : St} {σi : List SV} {cs : List Cell} {D D' : Ends}
/-- what a statement's mirror promises -/
def PstS (g : Gx) (W : WX) (U : Addr → Prop) (F : Hp) (ρ : List Addr) (H : Hp) (r : SR) (D : Ends) : Prop :=
  match r with
  | .next σi' cs' => ∀ F' ρ' H' σ', StpU U F ρ H F' ρ' H' → Sim g F' ρ' cs' H' → Slts g F' ρ' H' σi' σ' → (∀ x, Own σi' σ' x → U x ∨ H x = none) → D.nx σ' H'
  | .brk σi' cs' => ∀ F' ρ' H' σ', StpU U F ρ H F' ρ' H' → Sim g F' ρ' cs' H' → Slts g F' ρ' H' σi' σ' → (∀ x, Own σi' σ' x → U x ∨ H x = none) → D.bk σ' H'
  | .cnt σi' cs' => ∀ F' ρ' H' σ', StpU U F ρ H F' ρ' H' → Sim g F' ρ' cs' H' → Slts g F' ρ' H' σi' σ' → (∀ x, Own σi' σ' x → U x ∨ H x = none) → D.ct σ' H'
  | .ret x cs' => ∀ F' ρ' H' v, StpU U F ρ H F' ρ' H' → Sim g F' ρ' cs' H' → Rel g F' ρ' x v → D.rt v H'
  | .ex e σi' cs' => ∀ F' ρ' H' σ' cls d, StpU U F ρ H F' ρ' H' → Sim g F' ρ' cs' H' → Slts g F' ρ' H' σi' σ' → (∀ x, Own σi' σ' x → U x ∨ H x = none) → RelEx g F' ρ' e cls d → W cls d σ' H'
  | .stuck => False
def tS (g : Gx) (n : Nat) (W : WX) (m : SM) : TS := fun D σ H => ∃ F ρ cs σi, Sim g F ρ cs H ∧ Slts g F ρ H σi σ ∧ PstS g W (Own σi σ) F ρ H (m n σi cs) D
theorem own_down {U U' : Addr → Prop} (t : StpU U F ρ H F' ρ' H') (hu : ∀ x, U' x → U x ∨ H x = none) {x : Addr} (h : U' x ∨ H' x = none) : U x ∨ H x = none := by
  rcases h with z | z
  · exact hu x z
  · right
    cases e : H x with
    | none => rfl
    | some o => exact absurd z (t.dm x (by rw [e]; intro z; cases z))
theorem PstS.stp {r : SR} (h : PstS g W U F ρ H r D) (t : StpU U F ρ H F' ρ' H') (hu : ∀ x, U' x → U x ∨ H x = none) : PstS g W U' F' ρ' H' r D := by
  cases r with
  | next σi' cs' => exact fun F2 ρ2 H2 σ2 a b c d => h F2 ρ2 H2 σ2 (t.trans a hu) b c fun x o => own_down t hu (d x o)
  | brk σi' cs' => exact fun F2 ρ2 H2 σ2 a b c d => h F2 ρ2 H2 σ2 (t.trans a hu) b c fun x o => own_down t hu (d x o)
  | cnt σi' cs' => exact fun F2 ρ2 H2 σ2 a b c d => h F2 ρ2 H2 σ2 (t.trans a hu) b c fun x o => own_down t hu (d x o)
  | ret x cs' => exact fun F2 ρ2 H2 v a b c => h F2 ρ2 H2 v (t.trans a hu) b c
  | ex e σi' cs' => exact fun F2 ρ2 H2 σ2 cls d a b c o r => h F2 ρ2 H2 σ2 cls d (t.trans a hu) b c (fun x z => own_down t hu (o x z)) r
  | stuck => exact h
/-- a statement follows an expression -/
def thenS {α : Type} (r : Res α) (σi : List SV) (k : α → List Cell → SR) : SR :=
  match r with
  | .ok a cs => k a cs
  | .ex e cs => .ex e σi cs
  | .stuck => .stuck
theorem goS {α β : Type} {R : RR α β} {m : M α} {k : α → List Cell → SR} {Q : β → Hp → Prop} (hs : Sim g F ρ cs H) (hl : Slts g F ρ H σi σ) (hp : PstS g W (Own σi σ) F ρ H (thenS (m n σi cs) σi k) D)
    (h : ∀ v H' F' ρ' cs' x, Stp F ρ H F' ρ' H' → Sim g F' ρ' cs' H' → Slts g F' ρ' H' σi σ → R F' ρ' x v → PstS g W (Own σi σ) F' ρ' H' (k x cs') D → Q v H') : tG g n W R m σ H Q := by
  refine ⟨F, ρ, cs, σi, hs, hl, ?_⟩
  cases e : m n σi cs with
  | ok x cs' =>
    rw [e] at hp
    intro F' ρ' H' v st sm r
    exact h v H' F' ρ' cs' x st sm (hl.stp st) r (PstS.stp hp st.u fun x z => .inl z)
  | ex ee cs' =>
    rw [e] at hp
    exact fun F' ρ' H' cls d st sm r => hp F' ρ' H' σ cls d st.u sm (hl.stp st) (fun x z => .inl z) r
  | stuck =>
    rw [e] at hp
    exact hp
theorem PstS.nextH {σi' : List SV} {cs' : List Cell} (h : PstS g W U F ρ H (.next σi' cs') D) {F' ρ' H' σ'} (t : StpU U F ρ H F' ρ' H') (s : Sim g F' ρ' cs' H') (l : Slts g F' ρ' H' σi' σ') (o : ∀ x, Own σi' σ' x → U x ∨ H x = none) : D.nx σ' H' := h F' ρ' H' σ' t s l o
end

def JS (X : Cx) (n : Nat) (W : WX) (st : Stmt) (m : SM) : Prop := PS X st (tS (gx X) n W m)
def JB (X : Cx) (n : Nat) (W : WX) (st : List Stmt) (m : SM) : Prop := PSs X st (tS (gx X) n W m)

def sNext : SM := fun _ σ cs => .next σ cs
def sSeq (a b : SM) : SM := fun n σ cs => match a n σ cs with
  | .next σ' cs' => b n σ' cs'
  | r => r
def sDrop (m : M IV) : SM := fun n σ cs => thenS (m n σ cs) σ fun _ cs' => .next σ cs'
def sRet (m : M IV) : SM := fun n σ cs => thenS (m n σ cs) σ fun x cs' => .ret x cs'
def sRetN : SM := fun _ _ cs => .ret .non cs
def sBrk : SM := fun _ σ cs => .brk σ cs
def sCnt : SM := fun _ σ cs => .cnt σ cs
def sIf (c : M Bool) (a b : SM) : SM := fun n σ cs => thenS (c n σ cs) σ fun k cs' => if k = true then a n σ cs' else b n σ cs'
def sSet (i : Nat) (m : M IV) : SM := fun n σ cs => thenS (m n σ cs) σ fun x cs' => if i < σ.length then .next (σ.set i (.v x)) cs' else .stuck
def sOwn (i : Nat) (a : M (List IV)) : SM := fun n σ cs => thenS (a n σ cs) σ fun xs cs' => if i < σ.length ∧ xs.length ≤ lim then .next (σ.set i (.own xs)) cs' else .stuck
def sApp (i : Nat) (m : M IV) : SM := fun n σ cs => match σ[i]? with
  | some (.own xs) => thenS (m n σ cs) σ fun x cs' => if xs.length < lim then .next (σ.set i (.own (xs ++ [x]))) cs' else .stuck
  | _ => .stuck
/-- the slot's list is handed out from now on -/
def sFrz (i : Nat) (b : SM) : SM := fun n σ cs => match σ[i]? with
  | some (.own xs) => b n (σ.set i (.v (.lst xs))) cs
  | _ => .stuck
/-- the slot's list may be changed by others from now on -/
def sCell (i : Nat) (b : SM) : SM := fun n σ cs => match σ[i]? with
  | some (.own xs) => b n (σ.set i (.v (.cell cs.length))) (cs ++ [.lst xs])
  | _ => .stuck
def setAt (xs : List IV) (i : Int) (x : IV) : Option (List IV) := match ixN xs.length i with
  | some j => some (xs.set j x)
  | none => none
/-- o[i] = e -/
def sSetIx (mo mi m : M IV) : SM := fun n σ cs => thenS (m n σ cs) σ fun x cs1 => thenS (mo n σ cs1) σ fun o cs2 => thenS (mi n σ cs2) σ fun i cs3 => match o, i with
  | .cell k, .int j => match cs3[k]? with
    | some (.lst xs) => match setAt xs j x with
      | some ys => .next σ (cs3.set k (.lst ys))
      | none => .stuck
    | _ => .stuck
  | _, _ => .stuck
/-- o.append(e), o a cell -/
def sAppC (mo m : M IV) : SM := fun n σ cs => thenS (mo n σ cs) σ fun o cs1 => match o with
  | .cell k => match cs1[k]? with
    | some (.lst _) => thenS (m n σ cs1) σ fun x cs2 => match cs2[k]? with
      | some (.lst xs) => if xs.length < lim then .next σ (cs2.set k (.lst (xs ++ [x]))) else .stuck
      | _ => .stuck
    | _ => .stuck
  | _ => .stuck

section
variable {g : Gx} {F F' : Hp} {ρ ρ' : List Addr} {H H' : Hp} {σ : St} {σi : List SV} {cs : List Cell}
theorem Slts.set {i : Nat} {x : IV} {v : V} (hl : Slts g F ρ H σi σ) (r : Rel g F ρ x v) : Slts g F ρ H (σi.set i (.v x)) (σ.set i (some v)) := by
  refine ⟨by rw [List.length_set, List.length_set, hl.len], fun j s e => ?_, fun j k xs ys a e1 e2 h1 h2 => ?_⟩
  · by_cases hj : i = j
    · subst hj
      by_cases hi : i < σi.length
      · rw [List.getElem?_set_self hi] at e
        cases e
        exact ⟨v, by rw [List.getElem?_set_self (by rw [← hl.len]; exact hi)], r⟩
      · rw [List.getElem?_eq_none (by rw [List.length_set]; omega)] at e
        cases e
    · rw [List.getElem?_set_ne hj] at e ⊢
      exact hl.at_ j s e
  · by_cases hj : i = j
    · subst hj
      by_cases hi : i < σi.length
      · rw [List.getElem?_set_self hi] at e1; cases e1
      · rw [List.getElem?_eq_none (by rw [List.length_set]; omega)] at e1
        cases e1
    · by_cases hk : i = k
      · subst hk
        by_cases hi : i < σi.length
        · rw [List.getElem?_set_self hi] at e2; cases e2
        · rw [List.getElem?_eq_none (by rw [List.length_set]; omega)] at e2
          cases e2
      · rw [List.getElem?_set_ne hj] at e1 h1
        rw [List.getElem?_set_ne hk] at e2 h2
        exact hl.ow j k xs ys a e1 e2 h1 h2
theorem own_set {i : Nat} {x : IV} {w : Option V} {a : Addr} (h : Own (σi.set i (.v x)) (σ.set i w) a) : Own σi σ a := by
  obtain ⟨j, xs, e1, e2⟩ := h
  by_cases hj : i = j
  · subst hj
    by_cases hi : i < σi.length
    · rw [List.getElem?_set_self hi] at e1; cases e1
    · rw [List.getElem?_eq_none (by rw [List.length_set]; omega)] at e1
      cases e1
  · rw [List.getElem?_set_ne hj] at e1 e2
    exact ⟨j, xs, e1, e2⟩
/-- a new object of the frame's own -/
theorem Sim.lay {p : Addr} {o : HO} (hs : Sim g F ρ cs H) (hp : H p = none) : Sim g F ρ cs (upd H p o) ∧ Stp F ρ H F ρ (upd H p o) ∧ F p = none ∧ p ∉ ρ := by
  have fp : F p = none := by
    cases e : F p with
    | none => rfl
    | some u => rw [hs.fz p u e] at hp; cases hp
  have np : ∀ a ∈ ρ, a ≠ p := fun a ha z => hs.av a ha (by rw [z]; exact hp)
  refine ⟨⟨fun a u h => ?_, hs.len, hs.nd, fun a ha => ?_, hs.lv, fun n c a h1 h2 => ?_, tabs_upd hs.tb (by rw [hp]; exact NoX.none), fun a ha => by rw [upd_ne (np a ha)]; exact hs.nx a ha, hs.ft⟩, ⟨fun _ _ h => h, fun a h h' => absurd h' h, ⟨[], by simp⟩, fun a h h' => absurd h h', fun a u h _ _ _ => upd_none hp h, fun a h => ?_⟩, fp, fun z => np p z rfl⟩
  · rw [upd_ne (fun z => by rw [z, fp] at h; cases h)]
    exact hs.fz a u h
  · rw [upd_ne (np a ha)]
    exact hs.av a ha
  · rw [upd_ne (np a (List.mem_of_getElem? h2))]
    exact hs.ok n c a h1 h2
  · by_cases e : a = p
    · rw [e, upd_same]; intro z; cases z
    · rw [upd_ne e]; exact h
theorem Slts.setOwn {i : Nat} {xs : List IV} {vs : List V} {p : Addr} (hl : Slts g F ρ H σi σ) (hs : Sim g F ρ cs H) (hp : H p = some (.lst vs)) (hf : F p = none) (hr : p ∉ ρ) (hn : ∀ j ys, j ≠ i → σi[j]? = some (.own ys) → σ[j]? ≠ some (some (.ref p))) (r : RelL g F ρ xs vs) :
    Slts g F ρ H (σi.set i (.own xs)) (σ.set i (some (.ref p))) := by
  refine ⟨by rw [List.length_set, List.length_set, hl.len], fun j s e => ?_, fun j k ys zs a e1 e2 h1 h2 => ?_⟩
  · by_cases hj : i = j
    · subst hj
      by_cases hi : i < σi.length
      · rw [List.getElem?_set_self hi] at e
        cases e
        exact ⟨p, vs, by rw [List.getElem?_set_self (by rw [← hl.len]; exact hi)], hp, hf, hr, r⟩
      · rw [List.getElem?_eq_none (by rw [List.length_set]; omega)] at e
        cases e
    · rw [List.getElem?_set_ne hj] at e ⊢
      exact hl.at_ j s e
  · have hi : ∀ {j ys}, (σi.set i (.own xs))[j]? = some (.own ys) → i = j → i < σi.length := fun {j ys} e z => by
      subst z
      by_cases hi : i < σi.length
      · exact hi
      · rw [List.getElem?_eq_none (by rw [List.length_set]; omega)] at e
        cases e
    by_cases hj : i = j
    · by_cases hk : i = k
      · rw [← hj, ← hk]
      · have h := hi e1 hj
        subst hj
        rw [List.getElem?_set_self (by rw [← hl.len]; exact h)] at h1
        cases h1
        rw [List.getElem?_set_ne hk] at e2 h2
        exact absurd h2 (hn k zs (Ne.symm hk) e2)
    · by_cases hk : i = k
      · have h := hi e2 hk
        subst hk
        rw [List.getElem?_set_self (by rw [← hl.len]; exact h)] at h2
        cases h2
        rw [List.getElem?_set_ne hj] at e1 h1
        exact absurd h1 (hn j ys (Ne.symm hj) e1)
      · rw [List.getElem?_set_ne hj] at e1 h1
        rw [List.getElem?_set_ne hk] at e2 h2
        exact hl.ow j k ys zs a e1 e2 h1 h2
theorem own_setOwn {i : Nat} {xs : List IV} {p a : Addr} (h : Own (σi.set i (.own xs)) (σ.set i (some (.ref p))) a) (he : σi.length = σ.length) : Own σi σ a ∨ a = p := by
  obtain ⟨j, ys, e1, e2⟩ := h
  by_cases hj : i = j
  · subst hj
    by_cases hi : i < σi.length
    · rw [List.getElem?_set_self (by rw [← he]; exact hi)] at e2
      cases e2
      exact .inr rfl
    · rw [List.getElem?_eq_none (by rw [List.length_set]; omega)] at e1
      cases e1
  · rw [List.getElem?_set_ne hj] at e1 e2
    exact .inl ⟨j, ys, e1, e2⟩
/-- an own list is written -/
theorem Slts.wr {i : Nat} {xs ys : List IV} {p : Addr} {vs : List V} (hl : Slts g F ρ H σi σ) (hs : Sim g F ρ cs H) (hi : σi[i]? = some (.own xs)) (hp : σ[i]? = some (some (.ref p))) (r : RelL g F ρ ys vs) :
    Sim g F ρ cs (upd H p (.lst vs)) ∧ StpU (Own σi σ) F ρ H F ρ (upd H p (.lst vs)) ∧ Slts g F ρ (upd H p (.lst vs)) (σi.set i (.own ys)) σ ∧ ∀ a, Own (σi.set i (.own ys)) σ a → Own σi σ a := by
  obtain ⟨p', ws, e, h1, h2, h3, _⟩ := hl.at_ i _ hi
  rw [hp] at e
  cases e
  have np : ∀ a ∈ ρ, a ≠ p := fun a ha z => h3 (by rw [← z]; exact ha)
  have hlt : i < σi.length := (List.getElem?_eq_some_iff.mp hi).1
  have hse : σ = σ.set i (some (.ref p)) := by
    apply List.ext_getElem? 
    intro j
    by_cases hj : i = j
    · subst hj
      rw [List.getElem?_set_self (by rw [← hl.len]; exact hlt), hp]
    · rw [List.getElem?_set_ne hj]
  refine ⟨⟨fun a u h => ?_, hs.len, hs.nd, fun a ha => ?_, hs.lv, fun n c a e1 e2 => ?_, tabs_upd hs.tb (by rw [h1]; exact NoX.lst), fun a ha => by rw [upd_ne (np a ha)]; exact hs.nx a ha, hs.ft⟩, ⟨fun _ _ h => h, fun a h h' => absurd h' h, ⟨[], by simp⟩, fun a h h' => absurd h h', fun a u h _ _ hu => ?_, fun a h => ?_⟩, ⟨by rw [List.length_set, hl.len], fun j s e => ?_, fun j k us ws a e1 e2 q1 q2 => ?_⟩, fun a ⟨j, us, e1, e2⟩ => ?_⟩
  · rw [upd_ne (fun z => by rw [z, h2] at h; cases h)]
    exact hs.fz a u h
  · rw [upd_ne (np a ha)]
    exact hs.av a ha
  · rw [upd_ne (np a (List.mem_of_getElem? e2))]
    exact hs.ok n c a e1 e2
  · rw [upd_ne (fun z => hu ⟨i, xs, hi, by rw [z]; exact hp⟩)]
    exact h
  · by_cases e : a = p
    · rw [e, upd_same]; intro z; cases z
    · rw [upd_ne e]; exact h
  · by_cases hj : i = j
    · subst hj
      rw [List.getElem?_set_self hlt] at e
      cases e
      exact ⟨p, vs, hp, upd_same, h2, h3, r⟩
    · rw [List.getElem?_set_ne hj] at e
      have q := hl.at_ j s e
      cases s with
      | un => trivial
      | exn e a cls d => exact q
      | v x => exact q
      | own us =>
        obtain ⟨a, ws', e', q1, q2, q3, q4⟩ := q
        refine ⟨a, ws', e', ?_, q2, q3, q4⟩
        rw [upd_ne (fun z => hj (hl.ow i j _ _ p hi e hp (by rw [e', z])))]
        exact q1
  · have key : ∀ {j : Nat} {us : List IV}, (σi.set i (SV.own ys))[j]? = some (SV.own us) → ∃ us', σi[j]? = some (SV.own us') := fun {j us} e => by
      by_cases hj : i = j
      · subst hj; exact ⟨_, hi⟩
      · rw [List.getElem?_set_ne hj] at e; exact ⟨_, e⟩
    obtain ⟨_, k1⟩ := key e1
    obtain ⟨_, k2⟩ := key e2
    exact hl.ow j k _ _ a k1 k2 q1 q2
  · by_cases hj : i = j
    · subst hj
      exact ⟨i, xs, hi, e2⟩
    · rw [List.getElem?_set_ne hj] at e1
      exact ⟨j, us, e1, e2⟩
/-- a cell is written -/
theorem Sim.cell {k : Nat} {a : Addr} {c : Cell} {o : HO} {c0 : Cell} (hs : Sim g F ρ cs H) (hc0 : cs[k]? = some c0) (hl0 : c0 ≠ .dead) (ha : ρ[k]? = some a) (r : RelC g F ρ c (some o)) (hx : NoX (some o)) : Sim g F ρ (cs.set k c) (upd H a o) ∧ Stp F ρ H F ρ (upd H a o) := by
  have ma : a ∈ ρ := List.mem_of_getElem? ha
  have a1 := hs.lv k c0 a hc0 ha hl0
  refine ⟨⟨fun b u h => ?_, by rw [List.length_set]; exact hs.len, hs.nd, fun b hb => ?_, fun n d b e1 e2 e3 => ?_, fun n d b e1 e2 => ?_, tabs_upd hs.tb (hs.nx a ma), fun b hb => ?_, hs.ft⟩, ⟨fun _ _ h => h, fun b h h' => absurd h' h, ⟨[], by simp⟩, fun b h h' => absurd h h', fun b u h _ hb _ => ?_, fun b h => ?_⟩⟩
  · rw [upd_ne (fun z => by rw [z, a1] at h; cases h)]
    exact hs.fz b u h
  · by_cases e : b = a
    · rw [e, upd_same]; intro z; cases z
    · rw [upd_ne e]; exact hs.av b hb
  · by_cases hn : k = n
    · subst hn
      rw [ha] at e2
      cases e2
      exact a1
    · rw [List.getElem?_set_ne hn] at e1
      exact hs.lv n d b e1 e2 e3
  · by_cases hn : k = n
    · subst hn
      rw [ha] at e2
      cases e2
      rw [List.getElem?_set_self (by rw [← hs.len]; exact (List.getElem?_eq_some_iff.mp ha).1)] at e1
      cases e1
      rw [upd_same]
      exact r
    · rw [List.getElem?_set_ne hn] at e1
      rw [upd_ne (fun z => hn ?_)]
      · exact hs.ok n d b e1 e2
      · subst z
        have h1 := (List.getElem?_eq_some_iff.mp ha)
        have h2 := (List.getElem?_eq_some_iff.mp e2)
        exact (List.getElem_inj hs.nd).mp (h1.2.trans h2.2.symm)
  · by_cases e : b = a
    · rw [e, upd_same]; exact hx
    · rw [upd_ne e]; exact hs.nx b hb
  · rw [upd_ne (fun z => hb (by rw [z]; exact ma))]
    exact h
  · by_cases e : b = a
    · rw [e, upd_same]; intro z; cases z
    · rw [upd_ne e]; exact h
end

section
variable {X : Cx} {n : Nat} {W : WX} {a b c e : Expr} {st : Stmt} {es : List Expr} {rest sa sb : List Stmt} {m ma mb mo mi : M IV} {mc : M Bool} {mr : M (List IV)} {s1 s2 : SM} {pos p px : Pos} {x : Str} {i : Nat}
theorem jb_nil : JB X n W [] sNext := by
  refine pss_imp pss_nil fun D σ H h => ?_
  obtain ⟨F, ρ, cs, σi, hs, hl, hp⟩ := h
  exact hp.nextH StpU.refl hs hl fun x z => .inl z
theorem jb_cons (h1 : JS X n W st s1) (h2 : JB X n W rest s2) : JB X n W (st :: rest) (sSeq s1 s2) := by
  refine pss_imp (pss_cons h1 h2) fun D σ H h => ?_
  obtain ⟨F, ρ, cs, σi, hs, hl, hp⟩ := h
  refine ⟨F, ρ, cs, σi, hs, hl, ?_⟩
  unfold sSeq at hp
  cases e : s1 n σi cs with
  | next σi' cs' =>
    rw [e] at hp
    exact fun F' ρ' H' σ' t sm l o => ⟨F', ρ', cs', σi', sm, l, PstS.stp hp t o⟩
  | brk σi' cs' => rw [e] at hp; exact hp
  | cnt σi' cs' => rw [e] at hp; exact hp
  | ret y cs' => rw [e] at hp; exact hp
  | ex y σi' cs' => rw [e] at hp; exact hp
  | stuck => rw [e] at hp; exact hp
theorem jb_one (h1 : JS X n W st s1) : JB X n W [st] s1 := pss_one h1
theorem js_pass : JS X n W (.Pass pos) sNext := by
  refine ps_imp ps_pass fun D σ H h => ?_
  obtain ⟨F, ρ, cs, σi, hs, hl, hp⟩ := h
  exact hp.nextH StpU.refl hs hl fun x z => .inl z
theorem js_doc {j p2} : JS X n W (.Expr (.Constant (.str x) j pos) p2) sNext := by
  refine ps_imp ps_doc fun D σ H h => ?_
  obtain ⟨F, ρ, cs, σi, hs, hl, hp⟩ := h
  exact hp.nextH StpU.refl hs hl fun x z => .inl z
theorem js_brk : JS X n W (.Break pos) sBrk := by
  refine ps_imp ps_break fun D σ H h => ?_
  obtain ⟨F, ρ, cs, σi, hs, hl, hp⟩ := h
  exact hp F ρ H σ StpU.refl hs hl fun x z => .inl z
theorem js_cnt : JS X n W (.Continue pos) sCnt := by
  refine ps_imp ps_continue fun D σ H h => ?_
  obtain ⟨F, ρ, cs, σi, hs, hl, hp⟩ := h
  exact hp F ρ H σ StpU.refl hs hl fun x z => .inl z
theorem js_expr (h : JE X n W e m) (hs : swapsWith e none pos.line X.env = pure false := by rfl) : JS X n W (.Expr e pos) (sDrop m) := by
  refine ps_imp (ps_expr h hs) fun D σ H h => ?_
  obtain ⟨F, ρ, cs, σi, hs, hl, hp⟩ := h
  exact goS hs hl hp fun v H1 F1 ρ1 cs1 x st1 hs1 hl1 r1 hp1 => hp1.nextH StpU.refl hs1 hl1 fun x z => .inl z
theorem js_ret (h : JE X n W e m) : JS X n W (.Return (some e) pos) (sRet m) := by
  refine ps_imp (ps_ret h) fun D σ H h => ?_
  obtain ⟨F, ρ, cs, σi, hs, hl, hp⟩ := h
  exact goS hs hl hp fun v H1 F1 ρ1 cs1 x st1 hs1 hl1 r1 hp1 => hp1 F1 ρ1 H1 v StpU.refl hs1 r1
theorem js_retN : JS X n W (.Return none pos) sRetN := by
  refine ps_imp ps_retN fun D σ H h => ?_
  obtain ⟨F, ρ, cs, σi, hs, hl, hp⟩ := h
  exact hp F ρ H .non StpU.refl hs (by simp only [Rel])
theorem js_if (hc : JT X n W c mc) (ha : JB X n W sa s1) (hb : JB X n W sb s2) : JS X n W (.If c sa sb pos) (sIf mc s1 s2) := by
  refine ps_imp (ps_if hc ha hb) fun D σ H h => ?_
  obtain ⟨F, ρ, cs, σi, hs, hl, hp⟩ := h
  refine goS hs hl hp fun v H1 F1 ρ1 cs1 x st1 hs1 hl1 r1 hp1 => ?_
  have r1' : x = v := r1
  subst r1'
  cases x with
  | true => exact ⟨F1, ρ1, cs1, σi, hs1, hl1, hp1⟩
  | false => exact ⟨F1, ρ1, cs1, σi, hs1, hl1, hp1⟩
theorem sSet_run {g : Gx} {σ : St} {H : Hp} {D : Ends} (h : tS g n W (sSet i m) D σ H) : tAsg (tG g n W (Rel g) m) (gName i) D σ H := by
  obtain ⟨F, ρ, cs, σi, hs, hl, hp⟩ := h
  refine goS hs hl hp fun v H1 F1 ρ1 cs1 x st1 hs1 hl1 r1 hp1 => ?_
  by_cases hi : i < σi.length
  · rw [if_pos hi] at hp1
    exact hp1.nextH StpU.refl hs1 (hl1.set r1) fun x z => .inl (own_set z)
  · rw [if_neg hi] at hp1
    exact hp1.elim
theorem js_set (hN : X.N.Nodup) (hi : X.N[i]? = some x) (hx : Loc X.env.scope x) (h : JE X n W e m) (hs : swapsWith e (some (.Name x px)) pos.line X.env = pure false := by rfl) (hf : X.fn x = true ∨ X.env.scope.names.lookup x = some .local := by first | exact .inl rfl | exact .inr rfl | assumption) :
    JS X n W (.Assign [.Name x px] e pos) (sSet i m) := ps_imp (ps_set hN hi hx h hs hf) fun D σ H h => sSet_run h
/-- x = [e, ..] -/
theorem js_own (hN : X.N.Nodup) (hi : X.N[i]? = some x) (hx : Loc X.env.scope x) (h : JA X n W es mr) (hs : swapsWith (.List es p) (some (.Name x px)) pos.line X.env = pure false := by rfl) (hf : X.fn x = true ∨ X.env.scope.names.lookup x = some .local := by first | exact .inl rfl | exact .inr rfl | assumption) :
    JS X n W (.Assign [.Name x px] (.List es p) pos) (sOwn i mr) := by
  refine ps_imp (ps_set hN hi hx (pe_lst h) hs hf) fun D σ H h => ?_
  obtain ⟨F, ρ, cs, σi, hs, hl, hp⟩ := h
  refine goS hs hl hp fun vs H1 F1 ρ1 cs1 xs st1 hs1 hl1 r1 hp1 => ?_
  by_cases hi : i < σi.length ∧ xs.length ≤ lim
  · rw [if_pos hi] at hp1
    refine ⟨by rw [← r1.len]; exact lim_le hi.2, fun q hq => ?_⟩
    obtain ⟨hs2, st2, f2, n2⟩ := hs1.lay (o := .lst vs) hq
    have hl2 := hl1.stp st2
    refine hp1.nextH st2.u hs2 (hl2.setOwn hs2 upd_same f2 n2 (fun j ys hj e1 e2 => ?_) r1) fun y z => ?_
    · obtain ⟨b, ws, e3, e4, _⟩ := hl1.at_ j _ e1
      rw [e2] at e3
      cases e3
      rw [hq] at e4
      cases e4
    · rcases own_setOwn z hl1.len with z | z
      · exact .inl z
      · right; rw [z]; exact hq
  · rw [if_neg hi] at hp1
    exact hp1.elim
/-- x.append(e), x the frame's own -/
theorem js_app {ap cp np : Pos} (hN : X.N[i]? = some x) (hv : Vis X.env.scope x) (h : JE X n W e m) (hd : (x == ("__debug__" : Str)) = false := by decide) (hcd : (x == ("__classdict__" : Str)) = false := by decide)
    (hbase : attributeBase (.Name x np) "append" X.env (eval (.Name x np) X.env) = eval (.Name x np) X.env := by rfl)
    (hfew : ((backTo cp (starEach [e] X.env)).all (fun x => !x.1) && (backToKw cp (keywordEach [] X.env)).all (fun x => x.1.isSome)
      && decide (([e] : List Expr).length + ([] : List Keyword).length + (if ([] : List Keyword).isEmpty then 0 else 1) < 30)) = true := by rfl)
    (hline : (ap.endLine == cp.line) = true := by rfl) (hs : starEach [e] X.env = (false, eval e X.env) :: starEach [] X.env := by rfl) (hplain : (backTo cp (starEach [] X.env)).any (·.1) = false := by rfl)
    (hsw : swapsWith (.Call (.Attribute (.Name x np) "append" ap) [e] [] cp) none pos.line X.env = pure false := by rfl) : JS X n W (.Expr (.Call (.Attribute (.Name x np) "append" ap) [e] [] cp) pos) (sApp i m) := by
  refine ps_imp (ps_expr (pe_bm PySem.F.plainAttrs_list PySem.F.slot_list_append PySem.F.type_list_append mt_append (pe_var hN hv hd hcd) (pa_cons h pa_nil hs) hbase hfew hline hs hplain) hsw) fun D σ H h => ?_
  obtain ⟨F, ρ, cs, σi, hs, hl, hp⟩ := h
  unfold sApp at hp
  split at hp
  · rename_i xs q
    obtain ⟨a, vs, e1, e2, e3, e4, e5⟩ := hl.at_ i _ q
    refine ⟨.ref a, e1, .inl ⟨rfl, vs, .inl (.inl e2)⟩, ?_⟩
    refine goS hs hl hp fun v H1 F1 ρ1 cs1 y st1 hs1 hl1 r1 hp1 => ?_
    obtain ⟨a', vs', e1', e2', e3', e4', e5'⟩ := hl1.at_ i _ q
    rw [e1] at e1'
    cases e1'
    by_cases hz : xs.length < lim
    · rw [if_pos hz] at hp1
      obtain ⟨k1, k2, k3, k4⟩ := hl1.wr hs1 q e1 (e5'.append (.cons r1 .nil))
      exact ⟨a, vs', v, rfl, rfl, e2', by rw [← e5'.len]; exact Nat.lt_of_lt_of_le hz (by decide), hp1.nextH k2 k1 k3 fun z hz => .inl (k4 z hz)⟩
    · rw [if_neg hz] at hp1
      exact hp1.elim
  · exact hp.elim
end
end SL

set_option Elab.async false
set_option linter.all false
set_option autoImplicit false
set_option maxRecDepth 100000
set_option maxHeartbeats 4000000
/-! SLStmt2: own lists handed out, cells, op=, pairs. -/
namespace SL
open PySem PySem.Spec L2
open PyProof.Rows hiding St
section
variable {g : Gx} {F F' : Hp} {ρ ρ' : List Addr} {H H' : Hp} {σ : St} {σi : List SV} {cs : List Cell}
theorem Slts.frz {i : Nat} {xs : List IV} (hl : Slts g F ρ H σi σ) (hs : Sim g F ρ cs H) (hi : σi[i]? = some (.own xs)) :
    ∃ a vs, Sim g (upd F a (.lst vs)) ρ cs H ∧ StpU (Own σi σ) F ρ H (upd F a (.lst vs)) ρ H ∧ Slts g (upd F a (.lst vs)) ρ H (σi.set i (.v (.lst xs))) σ ∧ (∀ b, Own (σi.set i (.v (.lst xs))) σ b → Own σi σ b) ∧ σ[i]? = some (some (.ref a)) := by
  obtain ⟨a, vs, e, h1, h2, h3, r⟩ := hl.at_ i _ hi
  have hlt : i < σi.length := (List.getElem?_eq_some_iff.mp hi).1
  have fm : ∀ b u, F b = some u → upd F a (.lst vs) b = some u := fun b u h => upd_none h2 h
  have st : StpU (Own σi σ) F ρ H (upd F a (.lst vs)) ρ H := by
    refine ⟨fm, fun b h h' => ?_, ⟨[], by simp⟩, fun b h h' => absurd h h', fun b u h _ _ _ => h, fun _ h => h⟩
    by_cases z : b = a
    · right; left; exact ⟨i, xs, hi, by rw [z]; exact e⟩
    · rw [upd_ne z] at h; exact absurd h' h
  refine ⟨a, vs, ⟨fun b u h => ?_, hs.len, hs.nd, hs.av, fun n c b e1 e2 e3 => ?_, fun n c b e1 e2 => ?_, hs.tb, hs.nx, ft_upd hs.ft (fun _ z => by cases z)⟩, st, ⟨by rw [List.length_set, hl.len], fun j s e' => ?_, fun j k us ws b e1 e2 q1 q2 => ?_⟩, fun b ⟨j, us, e1, e2⟩ => ?_, e⟩
  · by_cases z : b = a
    · subst z
      rw [upd_same] at h
      rw [h1, h]
    · rw [upd_ne z] at h; exact hs.fz b u h
  · rw [upd_ne (fun z => h3 (by rw [← z]; exact List.mem_of_getElem? e2))]
    exact hs.lv n c b e1 e2 e3
  · exact (hs.ok n c b e1 e2).mono fm ⟨[], by simp⟩
  · by_cases hj : i = j
    · subst hj
      rw [List.getElem?_set_self hlt] at e'
      cases e'
      exact ⟨.ref a, e, by simp only [Rel]; exact ⟨a, vs, rfl, upd_same, r.stp st⟩⟩
    · rw [List.getElem?_set_ne hj] at e'
      have q := hl.at_ j s e'
      cases s with
      | un => trivial
      | exn e a cls d => exact ⟨q.1, q.2.mono st.fz st.rp⟩
      | v x =>
        obtain ⟨v, q1, q2⟩ := q
        exact ⟨v, q1, q2.stp st⟩
      | own us =>
        obtain ⟨b, ws', q0, q1, q2, q3, q4⟩ := q
        refine ⟨b, ws', q0, q1, ?_, q3, q4.stp st⟩
        rw [upd_ne (fun z => hj (hl.ow i j _ _ a hi e' e (by rw [q0, z])))]
        exact q2
  · have key : ∀ {j : Nat} {us : List IV}, (σi.set i (SV.v (.lst xs)))[j]? = some (SV.own us) → σi[j]? = some (SV.own us) := fun {j us} e => by
      by_cases hj : i = j
      · subst hj; rw [List.getElem?_set_self hlt] at e; cases e
      · rw [List.getElem?_set_ne hj] at e; exact e
    exact hl.ow j k _ _ b (key e1) (key e2) q1 q2
  · by_cases hj : i = j
    · subst hj; rw [List.getElem?_set_self hlt] at e1; cases e1
    · rw [List.getElem?_set_ne hj] at e1
      exact ⟨j, us, e1, e2⟩
theorem Slts.cel {i : Nat} {xs : List IV} (hl : Slts g F ρ H σi σ) (hs : Sim g F ρ cs H) (hi : σi[i]? = some (.own xs)) :
    ∃ a, Sim g F (ρ ++ [a]) (cs ++ [.lst xs]) H ∧ StpU (Own σi σ) F ρ H F (ρ ++ [a]) H ∧ Slts g F (ρ ++ [a]) H (σi.set i (.v (.cell cs.length))) σ ∧ (∀ b, Own (σi.set i (.v (.cell cs.length))) σ b → Own σi σ b) := by
  obtain ⟨a, vs, e, h1, h2, h3, r⟩ := hl.at_ i _ hi
  have hlt : i < σi.length := (List.getElem?_eq_some_iff.mp hi).1
  have st : StpU (Own σi σ) F ρ H F (ρ ++ [a]) H := by
    refine ⟨fun _ _ h => h, fun b h h' => absurd h' h, ⟨[a], rfl⟩, fun b h h' => ?_, fun b u h _ _ _ => h, fun _ h => h⟩
    right
    rcases List.mem_append.mp h with z | z
    · exact absurd z h'
    · rw [List.mem_singleton] at z
      exact ⟨i, xs, hi, by rw [z]; exact e⟩
  refine ⟨a, ⟨hs.fz, by rw [List.length_append, List.length_append, hs.len]; rfl, ?_, fun b hb => ?_, fun n c b e1 e2 e3 => ?_, fun n c b e1 e2 => ?_, hs.tb, fun b hb => (List.mem_append.mp hb).elim (hs.nx b) fun z => by rw [List.mem_singleton.mp z, h1]; exact NoX.lst, hs.ft⟩, st, ⟨by rw [List.length_set, hl.len], fun j s e' => ?_, fun j k us ws b e1 e2 q1 q2 => ?_⟩, fun b ⟨j, us, e1, e2⟩ => ?_⟩
  · exact List.nodup_append.mpr ⟨hs.nd, by simp, fun b hb c hc z => by
      rw [List.mem_singleton] at hc
      exact h3 (by rw [← hc, ← z]; exact hb)⟩
  · rcases List.mem_append.mp hb with z | z
    · exact hs.av b z
    · rw [List.mem_singleton] at z
      rw [z]
      rw [h1]; intro z; cases z
  · by_cases hn : n < cs.length
    · rw [List.getElem?_append_left hn] at e1
      rw [List.getElem?_append_left (by rw [hs.len]; exact hn)] at e2
      exact hs.lv n c b e1 e2 e3
    · rw [List.getElem?_append_right (by rw [hs.len]; omega)] at e2
      have hn0 : n - ρ.length = 0 := by
        have := (List.getElem?_eq_some_iff.mp e2).1
        simp at this; omega
      rw [hn0] at e2
      cases e2
      exact h2
  · by_cases hn : n < cs.length
    · rw [List.getElem?_append_left hn] at e1
      rw [List.getElem?_append_left (by rw [hs.len]; exact hn)] at e2
      exact (hs.ok n c b e1 e2).mono (fun _ _ h => h) ⟨[a], rfl⟩
    · rw [List.getElem?_append_right (by omega)] at e1
      rw [List.getElem?_append_right (by rw [hs.len]; omega)] at e2
      have hn0 : n - cs.length = 0 := by
        have := (List.getElem?_eq_some_iff.mp e1).1
        simp at this
        omega
      rw [hn0] at e1
      rw [hs.len, hn0] at e2
      cases e1
      cases e2
      exact ⟨vs, h1, r.stp st⟩
  · by_cases hj : i = j
    · subst hj
      rw [List.getElem?_set_self hlt] at e'
      cases e'
      have q : (ρ ++ [a])[cs.length]? = some a := by
        rw [List.getElem?_append_right (by rw [hs.len]; exact Nat.le_refl _), hs.len, Nat.sub_self]
        rfl
      exact ⟨.ref a, e, by simp only [Rel]; exact ⟨a, rfl, q⟩⟩
    · rw [List.getElem?_set_ne hj] at e'
      have q := hl.at_ j s e'
      cases s with
      | un => trivial
      | exn e a cls d => exact ⟨q.1, q.2.mono st.fz st.rp⟩
      | v x =>
        obtain ⟨v, q1, q2⟩ := q
        exact ⟨v, q1, q2.stp st⟩
      | own us =>
        obtain ⟨b, ws', q0, q1, q2, q3, q4⟩ := q
        refine ⟨b, ws', q0, q1, q2, fun z => ?_, q4.stp st⟩
        rcases List.mem_append.mp z with z | z
        · exact q3 z
        · rw [List.mem_singleton] at z
          exact hj (hl.ow i j _ _ a hi e' e (by rw [q0, z]))
  · have key : ∀ {j : Nat} {us : List IV}, (σi.set i (SV.v (.cell cs.length)))[j]? = some (SV.own us) → σi[j]? = some (SV.own us) := fun {j us} e => by
      by_cases hj : i = j
      · subst hj; rw [List.getElem?_set_self hlt] at e; cases e
      · rw [List.getElem?_set_ne hj] at e; exact e
    exact hl.ow j k _ _ b (key e1) (key e2) q1 q2
  · by_cases hj : i = j
    · subst hj; rw [List.getElem?_set_self hlt] at e1; cases e1
    · rw [List.getElem?_set_ne hj] at e1
      exact ⟨j, us, e1, e2⟩
end

def sPar (i j : Nat) (ma mb : M IV) : SM := fun n σ cs => thenS (ma n σ cs) σ fun x cs1 => thenS (mb n σ cs1) σ fun y cs2 => if i < σ.length ∧ j < σ.length then .next ((σ.set i (.v x)).set j (.v y)) cs2 else .stuck
def sAug (i : Nat) (f : IV → IV → Option IV) (m : M IV) : SM := fun n σ cs => match σ[i]? with
  | some (.v x) => thenS (m n σ cs) σ fun y cs1 => match f x y with
    | some z => .next (σ.set i (.v z)) cs1
    | none => .stuck
  | _ => .stuck

section
variable {X : Cx} {n : Nat} {W : WX} {a b c e o ie : Expr} {st : Stmt} {es : List Expr} {rest sa sb : List Stmt} {m ma mb mo mi : M IV} {mc : M Bool} {mr : M (List IV)} {s1 s2 sm : SM} {pos p px py pt : Pos} {x y : Str} {i j : Nat}
theorem tS_frz {g : Gx} {D : Ends} {σ : St} {H : Hp} (h : tS g n W (sFrz i sm) D σ H) : tS g n W sm D σ H := by
  obtain ⟨F, ρ, cs, σi, hs, hl, hp⟩ := h
  unfold sFrz at hp
  split at hp
  · rename_i xs q
    obtain ⟨a, vs, k1, k2, k3, k4, _⟩ := hl.frz hs q
    exact ⟨_, _, cs, _, k1, k3, PstS.stp hp k2 fun b z => .inl (k4 b z)⟩
  · exact hp.elim
theorem tS_cell {g : Gx} {D : Ends} {σ : St} {H : Hp} (h : tS g n W (sCell i sm) D σ H) : tS g n W sm D σ H := by
  obtain ⟨F, ρ, cs, σi, hs, hl, hp⟩ := h
  unfold sCell at hp
  split at hp
  · rename_i xs q
    obtain ⟨a, k1, k2, k3, k4⟩ := hl.cel hs q
    exact ⟨_, _, _, _, k1, k3, PstS.stp hp k2 fun b z => .inl (k4 b z)⟩
  · exact hp.elim
theorem jb_frz (h : JB X n W sa sm) : JB X n W sa (sFrz i sm) := pss_imp h fun D σ H h => tS_frz h
theorem jb_cell (h : JB X n W sa sm) : JB X n W sa (sCell i sm) := pss_imp h fun D σ H h => tS_cell h
theorem js_frz (h : JS X n W st sm) : JS X n W st (sFrz i sm) := ps_imp h fun D σ H h => tS_frz h
theorem js_cell (h : JS X n W st sm) : JS X n W st (sCell i sm) := ps_imp h fun D σ H h => tS_cell h

/-- o[i] = e -/
theorem js_setIx (h : JE X n W e m) (ho : JE X n W o mo) (hi : JE X n W ie mi)
    (ha : ∀ v, assign (.Subscript o ie p) X.env v = (do
      let ov ← holding [v] (eval o X.env)
      let iv ← holding [v, ov] (eval ie X.env)
      standAt p
      holding [v, ov, iv] (setItem ov iv v)
      release [v, ov, iv] []) := by intro _; rfl) (hs : swapsWithSole [.Subscript o ie p] e pos.line X.env = pure false := by rfl) (hw : swappedStores [.Subscript o ie p] e X.env = pure none := by rfl)
    (h1 : (assignEach [.Subscript o ie p] X.env).map (·.2) = [assign (.Subscript o ie p) X.env] := by rfl) : JS X n W (.Assign [.Subscript o ie p] e pos) (sSetIx mo mi m) := by
  refine ps_imp (ps_asg h (pg_sub ho hi set_list ha) hs hw h1) fun D σ H h => ?_
  obtain ⟨F, ρ, cs, σi, hs, hl, hp⟩ := h
  refine goS hs hl hp fun v H1 F1 ρ1 cs1 xi st1 hs1 hl1 r1 hp1 => ?_
  refine goS hs1 hl1 hp1 fun ov H2 F2 ρ2 cs2 oi st2 hs2 hl2 r2 hp2 => ?_
  refine goS hs2 hl2 hp2 fun iv H3 F3 ρ3 cs3 ii st3 hs3 hl3 r3 hp3 => ?_
  have r1' := (r1.stp st2).stp st3
  have r2' := r2.stp st3
  split at hp3
  · rename_i k j
    split at hp3
    · rename_i xs q
      simp only [Rel] at r2'
      obtain ⟨pa, rfl, hk⟩ := r2'
      obtain ⟨vs, e1, e2⟩ := hs3.ok k _ pa q hk
      unfold setAt at hp3
      split at hp3
      · rename_i ys e3
        split at e3
        · rename_i jj e4
          cases e3
          obtain ⟨c1, c2⟩ := hs3.cell (c := .lst (xs.set jj xi)) (o := .lst (vs.set jj v)) q (by intro z; cases z) hk ⟨_, rfl, e2.set r1' jj⟩ NoX.lst
          exact ⟨pa, vs, j, jj, rfl, relInt r3, e1, by rw [← e2.len]; exact e4, hp3.nextH c2.u c1 (hl3.stp c2) fun x z => .inl z⟩
        · cases e3
      · exact hp3.elim
    · exact hp3.elim
  · exact hp3.elim
theorem js_appC {ap cp : Pos} (ho : JE X n W o mo) (h : JE X n W e m)
    (hbase : attributeBase o "append" X.env (eval o X.env) = eval o X.env := by rfl)
    (hfew : ((backTo cp (starEach [e] X.env)).all (fun x => !x.1) && (backToKw cp (keywordEach [] X.env)).all (fun x => x.1.isSome)
      && decide (([e] : List Expr).length + ([] : List Keyword).length + (if ([] : List Keyword).isEmpty then 0 else 1) < 30)) = true := by rfl)
    (hline : (ap.endLine == cp.line) = true := by rfl) (hs : starEach [e] X.env = (false, eval e X.env) :: starEach [] X.env := by rfl) (hplain : (backTo cp (starEach [] X.env)).any (·.1) = false := by rfl)
    (hsw : swapsWith (.Call (.Attribute o "append" ap) [e] [] cp) none pos.line X.env = pure false := by rfl) : JS X n W (.Expr (.Call (.Attribute o "append" ap) [e] [] cp) pos) (sAppC mo m) := by
  refine ps_imp (ps_expr (pe_bm PySem.F.plainAttrs_list PySem.F.slot_list_append PySem.F.type_list_append mt_append ho (pa_cons h pa_nil hs) hbase hfew hline hs hplain) hsw) fun D σ H h => ?_
  obtain ⟨F, ρ, cs, σi, hs, hl, hp⟩ := h
  refine goS hs hl hp fun ov H1 F1 ρ1 cs1 oi st1 hs1 hl1 r1 hp1 => ?_
  split at hp1
  · rename_i k
    simp only [Rel] at r1
    obtain ⟨a, rfl, hk⟩ := r1
    split at hp1
    · rename_i xs q
      obtain ⟨vs, e1, e2⟩ := hs1.ok k _ a q hk
      refine ⟨.inl ⟨rfl, vs, .inl (.inl e1)⟩, ?_⟩
      refine goS hs1 hl1 hp1 fun v H2 F2 ρ2 cs2 y st2 hs2 hl2 r2 hp2 => ?_
      split at hp2
      · rename_i ys q2
        have hk2 : ρ2[k]? = some a := by
          obtain ⟨t, e⟩ := st2.rp
          rw [e, List.getElem?_append_left (List.getElem?_eq_some_iff.mp hk).1]
          exact hk
        obtain ⟨ws, e3, e4⟩ := hs2.ok k _ a q2 hk2
        split at hp2
        · rename_i hz
          obtain ⟨c1, c2⟩ := hs2.cell (c := .lst (ys ++ [y])) (o := .lst (ws ++ [v])) q2 (by intro z; cases z) hk2 ⟨_, rfl, e4.append (.cons r2 .nil)⟩ NoX.lst
          exact ⟨a, ws, v, rfl, rfl, e3, by rw [← e4.len]; exact Nat.lt_of_lt_of_le hz (by decide), hp2.nextH c2.u c1 (hl2.stp c2) fun x z => .inl z⟩
        · exact hp2.elim
      · exact hp2.elim
    · exact hp1.elim
  · exact hp1.elim
theorem js_par {kt k2 : Nat} {pt2 : Pos} (hc : X.calm = true) (hN : X.N.Nodup) (hi : X.N[i]? = some x) (hj : X.N[j]? = some y) (hij : i ≠ j) (hx : X.env.scope.names.lookup x = some .local) (hy : X.env.scope.names.lookup y = some .local) (ha : JE X n W a ma) (hb : JE X n W b mb)
    (hw : swappedStores [.Tuple [.Name x px, .Name y py] kt pt] (.Tuple [a, b] k2 pt2) X.env = pure (some [x, y])) (hs : swapsWithSole [.Tuple [.Name x px, .Name y py] kt pt] (.Tuple [a, b] k2 pt2) pos.line X.env = pure false := by rfl)
    (h1 : starEach [a, b] X.env = (false, eval a X.env) :: starEach [b] X.env := by rfl) (h2 : starEach [b] X.env = (false, eval b X.env) :: starEach [] X.env := by rfl) :
    JS X n W (.Assign [.Tuple [.Name x px, .Name y py] kt pt] (.Tuple [a, b] k2 pt2) pos) (sPar i j ma mb) := by
  refine ps_imp (ps_par hc hN hi hj hij hx hy (pa_cons ha (pa_cons hb pa_nil h2) h1) hw hs) fun D σ H h => ?_
  obtain ⟨F, ρ, cs, σi, hs, hl, hp⟩ := h
  refine goS hs hl hp fun v H1 F1 ρ1 cs1 xi st1 hs1 hl1 r1 hp1 => ?_
  refine goS hs1 hl1 hp1 fun w H2 F2 ρ2 cs2 yi st2 hs2 hl2 r2 hp2 => ?_
  split at hp2
  · exact ⟨v, w, rfl, hp2.nextH StpU.refl hs2 ((hl2.set (r1.stp st2)).set r2) fun x z => .inl (own_set (own_set z))⟩
  · exact hp2.elim
theorem js_aug {op : Operator} {f : IV → IV → Option IV} (ho : OpR X (inplaceOp op) (rJ (gx X) f)) (hN : X.N.Nodup) (hi : X.N[i]? = some x) (hx : Loc X.env.scope x) (h : JE X n W e m) (hf : X.fn x = true ∨ X.env.scope.names.lookup x = some .local := by first | exact .inl rfl | exact .inr rfl | assumption) :
    JS X n W (.AugAssign (.Name x px) op e pos) (sAug i f m) := by
  refine ps_imp (ps_aug (ti := rJ (gx X) f) hN hi hx h (fun pins s σ H x y v u Q I r1 r2 h => ho pins s σ H x y v u Q I r1 r2 h) hf) fun D σ H h => ?_
  obtain ⟨F, ρ, cs, σi, hs, hl, hp⟩ := h
  unfold sAug at hp
  split at hp
  · rename_i xi q
    obtain ⟨v, e1, rx⟩ := hl.at_ i _ q
    refine ⟨v, e1, ?_⟩
    refine goS hs hl hp fun w H1 F1 ρ1 cs1 yi st1 hs1 hl1 r1 hp1 => ?_
    cases hz : f xi yi with
    | none => rw [hz] at hp1; exact hp1.elim
    | some z =>
      rw [hz] at hp1
      exact ⟨F1, ρ1, cs1, xi, yi, z, hs1, rx.stp st1, r1, hz, fun F' ρ' H' v st2 hs2 r2 => hp1.nextH st2.u hs2 ((hl1.stp st2).set r2) fun x z => .inl (own_set z)⟩
  · exact hp.elim
end
end SL

set_option Elab.async false
set_option linter.all false
set_option autoImplicit false
set_option maxRecDepth 100000
set_option maxHeartbeats 4000000
/-! SLLoop: targets, iterators, for, while. -/
namespace SL
open PySem PySem.Spec L2
open PyProof.Rows hiding St

/-! ### targets -/
abbrev GM := IV → List SV → Option (List SV)
abbrev GMs := List IV → List SV → Option (List SV)
/-- but at ix nothing is another -/
def SameB (ix : List Nat) (σ σ' : St) : Prop := σ'.length = σ.length ∧ ∀ j, j ∉ ix → σ'[j]? = σ[j]?
def tGm (g : Gx) (ix : List Nat) (gm : GM) : TG := fun v σ H Q => ∃ F ρ cs σi x σi', Sim g F ρ cs H ∧ Slts g F ρ H σi σ ∧ Rel g F ρ x v ∧ gm x σi = some σi' ∧ ∀ σ', Slts g F ρ H σi' σ' → (∀ a, Own σi' σ' a → Own σi σ a) → SameB ix σ σ' → Q σ' H
def tGms (g : Gx) (ix : List Nat) (gm : GMs) : TGs := fun vs σ H Q => ∃ F ρ cs σi xs σi', Sim g F ρ cs H ∧ Slts g F ρ H σi σ ∧ RelL g F ρ xs vs ∧ gm xs σi = some σi' ∧ ∀ σ', Slts g F ρ H σi' σ' → (∀ a, Own σi' σ' a → Own σi σ a) → SameB ix σ σ' → Q σ' H
def JG (X : Cx) (tg : Expr) (ix : List Nat) (gm : GM) : Prop := PG X tg (tGm (gx X) ix gm)
def JGs (X : Cx) (tg : List Expr) (ix : List Nat) (gm : GMs) : Prop := PGs X tg (tGms (gx X) ix gm)
def gmN (i : Nat) : GM := fun x σ => if i < σ.length then some (σ.set i (.v x)) else none
def gmNil : GMs := fun xs σ => match xs with
  | [] => some σ
  | _ => none
def gmCons (a : GM) (b : GMs) : GMs := fun xs σ => match xs with
  | x :: r => (a x σ).bind fun σ' => b r σ'
  | [] => none
def gmTup (k : Nat) (b : GMs) : GM := fun x σ => match x with
  | .tup xs => if xs.length = k then b xs σ else none
  | _ => none
theorem pg_imp {X : Cx} {e : Expr} {t t' : TG} (h : PG X e t) (i : ∀ v σ H Q, t' v σ H Q → t v σ H Q) : PG X e t' := ⟨fun pins s σ H v u Q I r q => h.run pins s σ H v u Q I r (i v σ H Q q)⟩
theorem pgs_imp {X : Cx} {e : List Expr} {t t' : TGs} (h : PGs X e t) (i : ∀ v σ H Q, t' v σ H Q → t v σ H Q) : PGs X e t' := ⟨fun pins s σ H v u Q I r q => h.run pins s σ H v u Q I r (i v σ H Q q)⟩
section
variable {X : Cx} {tg e : Expr} {ts : List Expr} {gm : GM} {gms : GMs} {pos : Pos} {i k : Nat} {x : Str}
theorem jg_n (hN : X.N.Nodup) (hi : X.N[i]? = some x) (hx : Loc X.env.scope x) (hf : X.fn x = true ∨ X.env.scope.names.lookup x = some .local := by first | exact .inl rfl | exact .inr rfl | assumption) : JG X (.Name x pos) [i] (gmN i) := by
  refine pg_imp (pg_name hN hi hx hf) fun v σ H Q h => ?_
  obtain ⟨F, ρ, cs, σi, y, σi', hs, hl, r, e, q⟩ := h
  unfold gmN at e
  split at e
  · cases e
    exact q _ (hl.set r) (fun a z => own_set z) ⟨by rw [List.length_set], fun j hj => List.getElem?_set_ne fun z => hj (by rw [z]; exact List.mem_singleton.mpr rfl)⟩
  · cases e
theorem jgs_nil : JGs X [] [] gmNil := by
  refine pgs_imp pgs_nil fun v σ H Q h => ?_
  obtain ⟨F, ρ, cs, σi, xs, σi', hs, hl, r, e, q⟩ := h
  cases xs with
  | nil =>
    simp only [RelL] at r
    cases e
    exact ⟨r, q σ hl (fun a z => z) ⟨rfl, fun _ _ => rfl⟩⟩
  | cons y ys => cases e
theorem jgs_cons {ix ixs : List Nat} (h1 : JG X tg ix gm) (h2 : JGs X ts ixs gms) (hs : (assignEach (tg :: ts) X.env).map (·.2) = assign tg X.env :: (assignEach ts X.env).map (·.2) := by rfl) : JGs X (tg :: ts) (ix ++ ixs) (gmCons gm gms) := by
  refine pgs_imp (pgs_cons h1 h2 hs) fun v σ H Q h => ?_
  obtain ⟨F, ρ, cs, σi, xs, σi', hs, hl, r, e, q⟩ := h
  cases xs with
  | nil => cases e
  | cons y ys =>
    simp only [RelL] at r
    obtain ⟨w, ws, rfl, r1, r2⟩ := r
    simp only [gmCons] at e
    cases e1 : gm y σi with
    | none => rw [e1] at e; cases e
    | some σ1 =>
      rw [e1] at e
      exact ⟨w, ws, rfl, F, ρ, cs, σi, y, σ1, hs, hl, r1, e1, fun σ' l1 o1 s1 => ⟨F, ρ, cs, σ1, ys, σi', hs, l1, r2, e, fun σ2 l2 o2 s2 => q σ2 l2 (fun a z => o1 a (o2 a z)) ⟨s2.1.trans s1.1, fun j hj => (s2.2 j fun z => hj (List.mem_append_right _ z)).trans (s1.2 j fun z => hj (List.mem_append_left _ z))⟩⟩⟩
theorem jg_tup {k2 : Nat} {ix : List Nat} (hc : X.calm = true) (h : JGs X ts ix gms) (hn : (assignEach ts X.env).length = k := by rfl) (hst : (assignEach ts X.env).findIdx? (·.1) = none := by rfl) : JG X (.Tuple ts k2 pos) ix (gmTup k gms) := by
  refine pg_imp (pg_tup hc h hn hst) fun v σ H Q h => ?_
  obtain ⟨F, ρ, cs, σi, x, σi', hs, hl, r, e, q⟩ := h
  unfold gmTup at e
  split at e
  · split at e
    · rename_i xs hk
      simp only [Rel] at r
      obtain ⟨a, vs, rfl, h1, h2⟩ := r
      exact ⟨a, vs, rfl, sqT_mono hs.fz h1, by rw [← h2.len]; exact hk, F, ρ, cs, σi, xs, σi', hs, hl, h2, e, q⟩
    · cases e
  · cases e
/-- target = e -/
def sAsg (gm : GM) (m : M IV) : SM := fun n σ cs => thenS (m n σ cs) σ fun x cs1 => match gm x σ with
  | some σ' => .next σ' cs1
  | none => .stuck
theorem js_asg {n : Nat} {W : WX} {m : M IV} {ix : List Nat} (h : JE X n W e m) (hg : JG X tg ix gm) (hs : swapsWithSole [tg] e pos.line X.env = pure false := by rfl) (hw : swappedStores [tg] e X.env = pure none := by rfl)
    (h1 : (assignEach [tg] X.env).map (·.2) = [assign tg X.env] := by rfl) : JS X n W (.Assign [tg] e pos) (sAsg gm m) := by
  refine ps_imp (ps_asg h hg hs hw h1) fun D σ H h => ?_
  obtain ⟨F, ρ, cs, σi, hs, hl, hp⟩ := h
  refine goS hs hl hp fun v H1 F1 ρ1 cs1 x st1 hs1 hl1 r1 hp1 => ?_
  cases e : gm x σi with
  | none => rw [e] at hp1; exact hp1.elim
  | some σi' =>
    rw [e] at hp1
    exact ⟨F1, ρ1, cs1, σi, x, σi', hs1, hl1, r1, e, fun σ' l o _ => hp1.nextH StpU.refl hs1 l fun a z => .inl (o a z)⟩
end

/-! ### what is walked -/
/-- the iterator J gives the items xs, whatever comes to pass meanwhile -/
def RI (g : Gx) : RR (List IV) It := fun F ρ xs J => ∀ F' ρ' cs' H', (∀ a o, F a = some o → F' a = some o) → (∃ t, ρ' = ρ ++ t) → Sim g F' ρ' cs' H' →
  (∀ (i : Nat) (x : IV), xs[i]? = some x → J.go i H' ∧ ∀ v H'', J.yld i H' v H'' → ∃ F'', Stp F' ρ' H' F'' ρ' H'' ∧ Sim g F'' ρ' cs' H'' ∧ Rel g F'' ρ' x v) ∧ J.stop xs.length H'
def JI (X : Cx) (n : Nat) (W : WX) (tg iter : Expr) (m : M (List IV)) : Prop := PI X tg iter (tG (gx X) n W (RI (gx X)) m)
/-- what is walked, as a function of the value -/
def seqI : IV → Option (List IV)
  | .lst xs => some xs
  | .rol xs => some xs
  | .tup xs => some xs
  | .str s => if s.length ≤ lim then some (s.cps.toList.map fun c => .str ⟨#[c]⟩) else none
  | _ => none
def mIt (m : M IV) : M (List IV) := m.bind fun x => M.opt (seqI x)
def enI (xs : List IV) (k : Nat) : List IV := match xs with
  | [] => []
  | x :: r => .tup [.int k, x] :: enI r (k + 1)
def lstI : IV → Option (List IV)
  | .lst xs => some xs
  | .rol xs => some xs
  | _ => none
def mEn (a : M (List IV)) : M (List IV) := a.bind fun xs => M.opt (match xs with
  | [x] => (lstI x).map fun ys => enI ys 0
  | _ => none)
def rgI (lo : Int) : Nat → List IV
  | 0 => []
  | n + 1 => .int lo :: rgI (lo + 1) n
def mRg1 (a : M (List IV)) : M (List IV) := a.bind fun xs => M.opt (match xs with
  | [.int j] => if -(2 ^ 62) ≤ j ∧ j < 2 ^ 62 then some (rgI 0 j.toNat) else none
  | _ => none)
def mRg2 (a : M (List IV)) : M (List IV) := a.bind fun xs => M.opt (match xs with
  | [.int i, .int j] => if -(2 ^ 62) ≤ i ∧ i < 2 ^ 62 ∧ -(2 ^ 62) ≤ j ∧ j < 2 ^ 62 then some (rgI i (j - i).toNat) else none
  | _ => none)
theorem rgI_len (lo : Int) : ∀ n : Nat, (rgI lo n).length = n
  | 0 => rfl
  | n + 1 => by rw [rgI, List.length_cons, rgI_len _ n]
theorem rgI_get : ∀ (n : Nat) (lo : Int) (i : Nat) (x : IV), (rgI lo n)[i]? = some x → i < n ∧ x = .int (lo + i)
  | 0, lo, i, x, h => by simp [rgI] at h
  | n + 1, lo, 0, x, h => by
    simp only [rgI, List.getElem?_cons_zero, Option.some.injEq] at h
    exact ⟨Nat.succ_pos n, by rw [← h]; simp⟩
  | n + 1, lo, i + 1, x, h => by
    simp only [rgI, List.getElem?_cons_succ] at h
    obtain ⟨h1, h2⟩ := rgI_get n (lo + 1) i x h
    refine ⟨Nat.succ_lt_succ h1, ?_⟩
    rw [h2]
    congr 1
    omega
theorem enI_len : ∀ (xs : List IV) (k : Nat), (enI xs k).length = xs.length
  | [], _ => rfl
  | x :: xs, k => by rw [enI, List.length_cons, List.length_cons, enI_len xs]
theorem enI_get : ∀ (xs : List IV) (k i : Nat) (y : IV), (enI xs k)[i]? = some y → ∃ x, xs[i]? = some x ∧ y = .tup [.int ((k + i : Nat) : Int), x]
  | [], k, i, y, h => by simp [enI] at h
  | x :: xs, k, 0, y, h => by
    simp only [enI, List.getElem?_cons_zero, Option.some.injEq] at h
    exact ⟨x, rfl, h.symm⟩
  | x :: xs, k, i + 1, y, h => by
    simp only [enI, List.getElem?_cons_succ] at h
    obtain ⟨z, h1, h2⟩ := enI_get xs (k + 1) i y h
    refine ⟨z, by simpa using h1, ?_⟩
    rw [h2]
    congr 3
    omega
theorem pi_imp {X : Cx} {tg e : Expr} {t t' : TI} (h : PI X tg e t) (i : ∀ σ H R, t' σ H R → t σ H R) : PI X tg e t' := ⟨fun pins s σ H R I q => h.run pins s σ H R I (i σ H R q)⟩
section
variable {X : Cx} {n : Nat} {W : WX} {tg e a b : Expr} {m : M IV} {ma : M (List IV)} {p pos : Pos} {g : Gx} {F : Hp} {ρ : List Addr}
theorem ri_lst {xs : List IV} {vs : List V} {ad : Addr} (h : SqL g.K F ad vs) (r : RelL g F ρ xs vs) : RI g F ρ xs (Itl g.K ad) := by
  intro F' ρ' cs' H' hf hr hs
  have hq : SqL g.K H' ad vs := sqL_mono (fun a o e => hs.fz a o (hf a o e)) h
  have r' := r.mono hf hr
  refine ⟨fun i x e => ?_, ⟨vs, hq, by rw [r.len]; exact Nat.le_refl _⟩⟩
  obtain ⟨v, e1, r1⟩ := r'.get e
  refine ⟨⟨vs, v, hq, e1⟩, fun v' H'' y => ?_⟩
  obtain ⟨rfl, y⟩ := y
  have := y vs hq
  rw [e1] at this
  cases this
  exact ⟨F', StpU.refl, hs, r1⟩
theorem ri_tup {xs : List IV} {vs : List V} {ad : Addr} (h : SqT g.K F ad vs) (r : RelL g F ρ xs vs) : RI g F ρ xs (Itt g.K ad) := by
  intro F' ρ' cs' H' hf hr hs
  have hq : SqT g.K H' ad vs := sqT_mono (fun a o e => hs.fz a o (hf a o e)) h
  have r' := r.mono hf hr
  refine ⟨fun i x e => ?_, ⟨vs, hq, by rw [r.len]; exact Nat.le_refl _⟩⟩
  obtain ⟨v, e1, r1⟩ := r'.get e
  refine ⟨⟨vs, v, hq, e1⟩, fun v' H'' y => ?_⟩
  obtain ⟨rfl, y⟩ := y
  have := y vs hq
  rw [e1] at this
  cases this
  exact ⟨F', StpU.refl, hs, r1⟩
theorem ri_str {s : Str} : RI g F ρ (s.cps.toList.map fun c => .str ⟨#[c]⟩) (Its s) := by
  intro F' ρ' cs' H' hf hr hs
  refine ⟨fun i x e => ?_, ?_⟩
  · rw [List.getElem?_map] at e
    obtain ⟨c, e1, rfl⟩ := Option.map_eq_some_iff.mp e
    have e2 : s.cps[i]? = some c := by simpa using e1
    refine ⟨?_, fun v H'' y => ?_⟩
    · show i < s.cps.size
      exact (Array.getElem?_eq_some_iff.mp e2).1
    · obtain ⟨rfl, c', e3, rfl⟩ := y
      rw [e2] at e3
      cases e3
      exact ⟨F', StpU.refl, hs, by simp only [Rel]⟩
  · show s.cps.size ≤ _
    simp
theorem ri_rg {lo : Int} {k : Nat} : RI g F ρ (rgI lo k) (Itr lo k) := by
  intro F' ρ' cs' H' hf hr hs
  refine ⟨fun i x e => ?_, by rw [rgI_len]; exact Nat.le_refl k⟩
  obtain ⟨h1, rfl⟩ := rgI_get _ _ _ _ e
  refine ⟨h1, fun v H'' y => ?_⟩
  obtain ⟨rfl, rfl⟩ := y
  exact ⟨F', StpU.refl, hs, by simp only [Rel]⟩
theorem ri_en {xs : List IV} {vs : List V} {ad : Addr} (h : SqL g.K F ad vs) (r : RelL g F ρ xs vs) : RI g F ρ (enI xs 0) (Ite g.K ad) := by
  intro F' ρ' cs' H' hf hr hs
  have hq : SqL g.K H' ad vs := sqL_mono (fun a o e => hs.fz a o (hf a o e)) h
  have r' := r.mono hf hr
  refine ⟨fun i y e => ?_, ⟨vs, hq, by rw [enI_len, r.len]; exact Nat.le_refl _⟩⟩
  obtain ⟨x, e0, rfl⟩ := enI_get _ _ _ _ e
  obtain ⟨v, e1, r1⟩ := r'.get e0
  refine ⟨⟨vs, v, hq, e1⟩, fun v' H'' yy => ?_⟩
  obtain ⟨T, w, rfl, hT, rfl, y⟩ := yy
  have := y vs hq
  rw [e1] at this
  cases this
  obtain ⟨hs', st⟩ := hs.new (o := .tup [.int (i : Nat), v]) hT
  refine ⟨_, st, hs', ?_⟩
  simp only [Rel]
  refine ⟨T, _, rfl, .inl (.inl upd_same), .cons (by simp only [Rel, Nat.zero_add]) (.cons (r1.stp st) .nil)⟩
/-- over a list, a tuple, a text -/
theorem ji_of (h : JE X n W e m) : JI X n W tg e (mIt m) := by
  refine ⟨fun pins s σ H R I q => ?_⟩
  obtain ⟨F, ρ, cs, σi, hs, hl, hp⟩ := q
  cases em : m n σi cs with
  | stuck =>
    have : mIt m n σi cs = .stuck := by show (m n σi cs).then _ = _; rw [em]; rfl
    rw [this] at hp
    exact hp.elim
  | ex ee cs' =>
    have e2 : mIt m n σi cs = .ex ee cs' := by show (m n σi cs).then _ = _; rw [em]; rfl
    rw [e2] at hp
    exact (pi_tup h).run pins s σ H R I ⟨F, ρ, cs, σi, hs, hl, by rw [em]; exact hp⟩
  | ok x cs' =>
    have e2 : mIt m n σi cs = M.opt (seqI x) n σi cs' := by show (m n σi cs).then _ = _; rw [em]; rfl
    rw [e2] at hp
    cases x with
    | lst xs =>
      refine (pi_list h).run pins s σ H R I ⟨F, ρ, cs, σi, hs, hl, ?_⟩
      rw [em]
      intro F' ρ' H' v st sm r
      simp only [Rel] at r
      obtain ⟨a, vs, rfl, h1, h2⟩ := r
      have hq : SqL X.K F' a vs := .inl (.inl h1)
      refine ⟨a, rfl, ⟨vs, sqL_mono sm.fz hq⟩, hp F' ρ' H' _ st sm (ri_lst hq h2)⟩
    | rol xs =>
      refine (pi_list h).run pins s σ H R I ⟨F, ρ, cs, σi, hs, hl, ?_⟩
      rw [em]
      intro F' ρ' H' v st sm r
      simp only [Rel] at r
      obtain ⟨a, vs, rfl, hq, h2⟩ := r
      refine ⟨a, rfl, ⟨vs, sqL_mono sm.fz hq⟩, hp F' ρ' H' _ st sm (ri_lst hq h2)⟩
    | tup xs =>
      refine (pi_tup h).run pins s σ H R I ⟨F, ρ, cs, σi, hs, hl, ?_⟩
      rw [em]
      intro F' ρ' H' v st sm r
      simp only [Rel] at r
      obtain ⟨a, vs, rfl, h1, h2⟩ := r
      exact ⟨a, rfl, ⟨vs, sqT_mono sm.fz h1⟩, hp F' ρ' H' _ st sm (ri_tup h1 h2)⟩
    | str y =>
      have e3 : seqI (.str y) = if y.length ≤ lim then some (y.cps.toList.map fun c => IV.str ⟨#[c]⟩) else none := rfl
      rw [e3] at hp
      by_cases hz : y.length ≤ lim
      · rw [if_pos hz] at hp
        refine (pi_str h).run pins s σ H R I ⟨F, ρ, cs, σi, hs, hl, ?_⟩
        rw [em]
        intro F' ρ' H' v st sm r
        rw [relStr r]
        exact ⟨y, rfl, hp F' ρ' H' _ st sm ri_str⟩
      · rw [if_neg hz] at hp
        exact hp.elim
    | _ => exact hp.elim
theorem ji_rg1 (ha : JA X n W [a] ma) (hm : X.mg "range" = none) (hg : Gl X "range" := by rfl) (hs : starEach [a] X.env = [(false, eval a X.env)] := by rfl) : JI X n W tg (.Call (.Name "range" p) [a] [] pos) (mRg1 ma) := by
  refine pi_imp (pi_range1 hg hm ha hs) fun σ H R q => ?_
  obtain ⟨F, ρ, cs, σi, hs, hl, hp⟩ := q
  refine go hs hl hp fun vs H1 F1 ρ1 cs1 xs st1 hs1 hl1 r1 hp1 => ?_
  obtain ⟨ys, hy, q⟩ := pst_opt hp1
  split at hy
  · split at hy
    · rename_i j hz
      cases hy
      obtain ⟨v, rfl, r2⟩ := relL1 r1
      rw [relInt r2]
      exact ⟨j, rfl, hz.1, hz.2, q F1 ρ1 H1 _ StpU.refl hs1 ri_rg⟩
    · cases hy
  · cases hy
theorem ji_rg2 (ha : JA X n W [a, b] ma) (hm : X.mg "range" = none) (hg : Gl X "range" := by rfl) (hs : starEach [a, b] X.env = [(false, eval a X.env), (false, eval b X.env)] := by rfl) (hs2 : starEach [b] X.env = [(false, eval b X.env)] := by rfl) :
    JI X n W tg (.Call (.Name "range" p) [a, b] [] pos) (mRg2 ma) := by
  refine pi_imp (pi_range2 hg hm ha hs hs2) fun σ H R q => ?_
  obtain ⟨F, ρ, cs, σi, hs, hl, hp⟩ := q
  refine go hs hl hp fun vs H1 F1 ρ1 cs1 xs st1 hs1 hl1 r1 hp1 => ?_
  obtain ⟨ys, hy, q⟩ := pst_opt hp1
  split at hy
  · split at hy
    · rename_i i j hz
      cases hy
      obtain ⟨v, w, rfl, r2, r3⟩ := relL2 r1
      rw [relInt r2, relInt r3]
      exact ⟨i, j, rfl, hz, q F1 ρ1 H1 _ StpU.refl hs1 ri_rg⟩
    · cases hy
  · cases hy
theorem ji_en {elts : List Expr} {kk : Nat} {tpos : Pos} (ha : JA X n W [e] ma) (hm : X.mg "enumerate" = none) (hg : Gl X "enumerate" := by rfl) (hs : starEach [e] X.env = [(false, eval e X.env)] := by rfl) :
    JI X n W (.Tuple elts kk tpos) (.Call (.Name "enumerate" p) [e] [] pos) (mEn ma) := by
  refine pi_imp (pi_enum hg hm ha hs) fun σ H R q => ?_
  obtain ⟨F, ρ, cs, σi, hs, hl, hp⟩ := q
  refine go hs hl hp fun vs H1 F1 ρ1 cs1 xs st1 hs1 hl1 r1 hp1 => ?_
  obtain ⟨ys, hy, q⟩ := pst_opt hp1
  split at hy
  · rename_i x
    obtain ⟨zs, hz, rfl⟩ := Option.map_eq_some_iff.mp hy
    obtain ⟨v, rfl, r2⟩ := relL1 r1
    have key : ∃ a vs, v = .ref a ∧ SqL X.K F1 a vs ∧ RelL (gx X) F1 ρ1 zs vs := by
      cases x with
      | lst xs =>
        cases hz
        simp only [Rel] at r2
        obtain ⟨a, vs, rfl, h1, h2⟩ := r2
        exact ⟨a, vs, rfl, .inl (.inl h1), h2⟩
      | rol xs =>
        cases hz
        simp only [Rel] at r2
        obtain ⟨a, vs, rfl, h1, h2⟩ := r2
        exact ⟨a, vs, rfl, h1, h2⟩
      | _ => cases hz
    obtain ⟨a, vs, rfl, h1, h2⟩ := key
    exact ⟨a, vs, rfl, sqL_mono hs1.fz h1, q F1 ρ1 H1 _ StpU.refl hs1 (ri_en h1 h2)⟩
  · cases hy
end

/-! ### for, while -/
def forL (gm : GM) (b : SM) (n : Nat) : List IV → List SV → List Cell → SR
  | [], σ, cs => .next σ cs
  | x :: r, σ, cs => match gm x σ with
    | some σ1 => match b n σ1 cs with
      | .next σ2 cs2 => forL gm b n r σ2 cs2
      | .cnt σ2 cs2 => forL gm b n r σ2 cs2
      | .brk σ2 cs2 => .next σ2 cs2
      | .ret x cs2 => .ret x cs2
      | .ex e σ2 cs2 => .ex e σ2 cs2
      | .stuck => .stuck
    | none => .stuck
def sFor (mi : M (List IV)) (gm : GM) (b : SM) : SM := fun n σ cs => thenS (mi n σ cs) σ fun xs cs1 => forL gm b n xs σ cs1
def whL (c : M Bool) (b : SM) (n : Nat) : Nat → List SV → List Cell → SR
  | 0, _, _ => .stuck
  | k + 1, σ, cs => thenS (c n σ cs) σ fun t cs1 => match t with
    | false => .next σ cs1
    | true => match b n σ cs1 with
      | .next σ2 cs2 => whL c b n k σ2 cs2
      | .cnt σ2 cs2 => whL c b n k σ2 cs2
      | .brk σ2 cs2 => .next σ2 cs2
      | .ret x cs2 => .ret x cs2
      | .ex e σ2 cs2 => .ex e σ2 cs2
      | .stuck => .stuck
def sWh (c : M Bool) (b : SM) : SM := fun n σ cs => whL c b n n σ cs
section
variable {X : Cx} {n : Nat} {W : WX} {tg iter c : Expr} {body : List Stmt} {mi : M (List IV)} {gm : GM} {sb : SM} {mc : M Bool} {pos : Pos}
theorem js_for {ix : List Nat} (hp : PassesOwn (model X.prog X.w) X.A X.env X.xe) (hc : X.calm = true) (hi : JI X n W tg iter mi) (hg : JG X tg ix gm) (hb : JB X n W body sb) (hs : ∀ x, foldedSetIterable iter X.env x = pure x := by intro _; rfl) : JS X n W (.For tg iter body [] pos) (sFor mi gm sb) := by
  refine ps_imp (ps_for hp hc hi hg hb hs) fun D σ H h => ?_
  obtain ⟨F, ρ, cs, σi, hs, hl, hp⟩ := h
  refine goS hs hl hp fun J H1 F1 ρ1 cs1 xs st1 hs1 hl1 r1 hp1 => ?_
  refine ⟨fun i m σ H => m = xs.length - i ∧ i ≤ xs.length ∧ ∃ F ρ cs σi, (∀ a o, F1 a = some o → F a = some o) ∧ (∃ t, ρ = ρ1 ++ t) ∧ Sim (gx X) F ρ cs H ∧ Slts (gx X) F ρ H σi σ ∧ PstS (gx X) W (Own σi σ) F ρ H (forL gm sb n (xs.drop i) σi cs) D,
    ⟨xs.length, by simp, Nat.zero_le _, F1, ρ1, cs1, σi, fun _ _ h => h, ⟨[], by simp⟩, hs1, hl1, hp1⟩, ?_⟩
  rintro i m σ2 H2 ⟨rfl, hi, F2, ρ2, cs2, σi2, hf, hr, hs2, hl2, hp2⟩
  obtain ⟨k1, k2⟩ := r1 F2 ρ2 cs2 H2 hf hr hs2
  by_cases hlt : i < xs.length
  · right
    have ei : xs[i]? = some xs[i] := List.getElem?_eq_getElem hlt
    obtain ⟨g1, g2⟩ := k1 i _ ei
    rw [List.drop_eq_getElem_cons hlt] at hp2
    refine ⟨g1, fun σ' H' => i < xs.length ∧ ∃ F ρ cs σi, (∀ a o, F1 a = some o → F a = some o) ∧ (∃ t, ρ = ρ1 ++ t) ∧ Sim (gx X) F ρ cs H' ∧ Slts (gx X) F ρ H' σi σ' ∧ PstS (gx X) W (Own σi σ') F ρ H' (forL gm sb n (xs.drop (i + 1)) σi cs) D,
      fun σ' H' ⟨hlt, q⟩ => ⟨xs.length - (i + 1), by omega, rfl, hlt, q⟩, fun v H3 y => ?_⟩
    obtain ⟨F3, st3, hs3, r3⟩ := g2 v H3 y
    have hl3 := hl2.stp st3
    unfold forL at hp2
    cases eg : gm xs[i] σi2 with
    | none => rw [eg] at hp2; exact hp2.elim
    | some σi3 =>
      rw [eg] at hp2
      simp only at hp2
      refine ⟨F3, ρ2, cs2, σi2, _, σi3, hs3, hl3, r3, eg, fun σ3 l3 o3 _ => ?_⟩
      have hp3 : PstS (gx X) W (Own σi3 σ3) F3 ρ2 H3 _ D := PstS.stp hp2 st3.u (fun x z => .inl (o3 x z))
      refine ⟨F3, ρ2, cs2, σi3, hs3, l3, ?_⟩
      have tail : ∀ {F' ρ' H' σ' σi' cs'}, StpU (Own σi3 σ3) F3 ρ2 H3 F' ρ' H' → Sim (gx X) F' ρ' cs' H' → Slts (gx X) F' ρ' H' σi' σ' → (∀ x, Own σi' σ' x → Own σi3 σ3 x ∨ H3 x = none) → PstS (gx X) W (Own σi3 σ3) F3 ρ2 H3 (forL gm sb n (xs.drop (i + 1)) σi' cs') D →
          i < xs.length ∧ ∃ F ρ cs σi, (∀ a o, F1 a = some o → F a = some o) ∧ (∃ t, ρ = ρ1 ++ t) ∧ Sim (gx X) F ρ cs H' ∧ Slts (gx X) F ρ H' σi σ' ∧ PstS (gx X) W (Own σi σ') F ρ H' (forL gm sb n (xs.drop (i + 1)) σi cs) D := by
        intro F' ρ' H' σ' σi' cs' t s l o q
        refine ⟨hlt, F', ρ', cs', σi', fun a u e => t.fz a u (st3.fz a u (hf a u e)), ?_, s, l, PstS.stp q t o⟩
        obtain ⟨t1, rfl⟩ := hr
        obtain ⟨t2, rfl⟩ := t.rp
        exact ⟨t1 ++ t2, by rw [List.append_assoc]⟩
      cases eb : sb n σi3 cs2 with
      | next σi4 cs4 =>
        rw [eb] at hp3
        exact fun F' ρ' H' σ' t s l o => tail t s l o hp3
      | cnt σi4 cs4 =>
        rw [eb] at hp3
        exact fun F' ρ' H' σ' t s l o => tail t s l o hp3
      | brk σi4 cs4 => rw [eb] at hp3; exact hp3
      | ret y cs4 => rw [eb] at hp3; exact hp3
      | ex y σi4 cs4 => rw [eb] at hp3; exact hp3
      | stuck => rw [eb] at hp3; exact hp3
  · left
    have hi2 : i = xs.length := by omega
    subst hi2
    rw [List.drop_length] at hp2
    exact ⟨k2, hp2.nextH StpU.refl hs2 hl2 fun x z => .inl z⟩
theorem js_while (hp : PassesOwn (model X.prog X.w) X.A X.env X.xe) (hc : JT X n W c mc) (hb : JB X n W body sb) : JS X n W (.While c body [] pos) (sWh mc sb) := by
  refine ps_imp (ps_while hp hc hb) fun D σ H h => ?_
  obtain ⟨F, ρ, cs, σi, hs, hl, hp⟩ := h
  refine ⟨fun m σ H => ∃ F ρ cs σi, Sim (gx X) F ρ cs H ∧ Slts (gx X) F ρ H σi σ ∧ PstS (gx X) W (Own σi σ) F ρ H (whL mc sb n m σi cs) D, ⟨n, F, ρ, cs, σi, hs, hl, hp⟩, ?_⟩
  rintro m σ1 H1 ⟨F1, ρ1, cs1, σi1, hs1, hl1, hp1⟩
  cases m with
  | zero => exact hp1.elim
  | succ k =>
    refine goS hs1 hl1 hp1 fun t H2 F2 ρ2 cs2 tt st2 hs2 hl2 r2 hp2 => ?_
    have r2' : tt = t := r2
    subst r2'
    cases tt with
    | false =>
      rw [if_neg Bool.false_ne_true]
      exact hp2.nextH StpU.refl hs2 hl2 fun x z => .inl z
    | true =>
      rw [if_pos rfl]
      refine ⟨fun σ H => ∃ F ρ cs σi, Sim (gx X) F ρ cs H ∧ Slts (gx X) F ρ H σi σ ∧ PstS (gx X) W (Own σi σ) F ρ H (whL mc sb n k σi cs) D, fun σ' H' q => ⟨k, Nat.lt_succ_self k, q⟩, ?_⟩
      refine ⟨F2, ρ2, cs2, σi1, hs2, hl2, ?_⟩
      simp only at hp2
      cases eb : sb n σi1 cs2 with
      | next σi4 cs4 =>
        rw [eb] at hp2
        exact fun F' ρ' H' σ' t s l o => ⟨F', ρ', cs4, σi4, s, l, PstS.stp hp2 t o⟩
      | cnt σi4 cs4 =>
        rw [eb] at hp2
        exact fun F' ρ' H' σ' t s l o => ⟨F', ρ', cs4, σi4, s, l, PstS.stp hp2 t o⟩
      | brk σi4 cs4 => rw [eb] at hp2; exact hp2
      | ret y cs4 => rw [eb] at hp2; exact hp2
      | ex y σi4 cs4 => rw [eb] at hp2; exact hp2
      | stuck => rw [eb] at hp2; exact hp2
end
end SL

set_option Elab.async false
set_option linter.all false
set_option autoImplicit false
set_option maxRecDepth 100000
set_option maxHeartbeats 4000000
/-! SLComp: list comprehensions. -/
namespace SL
open PySem PySem.Spec L2
open PyProof.Rows hiding St
def wipeI (σ : List SV) : List Nat → List SV
  | [] => σ
  | v :: vs => (wipeI σ vs).set v .un
def cmpL (gm : GM) (mt : M Bool) (me : M IV) (n : Nat) (σ : List SV) : List IV → List IV → List Cell → Res (List IV)
  | [], acc, cs => .ok acc cs
  | x :: r, acc, cs => match gm x σ with
    | none => .stuck
    | some σ1 => match mt n σ1 cs with
      | .ok true cs1 => match me n σ1 cs1 with
        | .ok y cs2 => if acc.length < lim then cmpL gm mt me n σ r (acc ++ [y]) cs2 else .stuck
        | _ => .stuck
      | .ok false cs1 => cmpL gm mt me n σ r acc cs1
      | _ => .stuck
/-- [e for target in .. if ..] -/
def eLc (mi : M (List IV)) (gm : GM) (mt : M Bool) (me : M IV) (vs : List Nat) : M IV := mi.bind fun xs n σ cs => (cmpL gm mt me n (wipeI σ vs) xs [] cs).then fun ys cs' => .ok (.lst ys) cs'
theorem wipe_out {σ : St} {j : Nat} : ∀ {vs : List Nat}, j ∉ vs → (wipe σ vs)[j]? = σ[j]?
  | [], _ => rfl
  | v :: vs, h => by
    unfold wipe
    rw [List.getElem?_set_ne (fun z => h (by rw [z]; exact List.mem_cons_self))]
    exact wipe_out fun z => h (List.mem_cons_of_mem _ z)
theorem wipe_in {σ : St} {j : Nat} : ∀ {vs : List Nat}, j ∈ vs → j < σ.length → (wipe σ vs)[j]? = some none
  | [], h, _ => by simp at h
  | v :: vs, h, hl => by
    unfold wipe
    by_cases e : v = j
    · subst e
      rw [List.getElem?_set_self (by rw [wipe_length]; exact hl)]
    · rw [List.getElem?_set_ne e]
      exact wipe_in ((List.mem_cons.mp h).resolve_left (Ne.symm e)) hl
theorem wipe_same {σ σ' : St} {vs ix : List Nat} (h : SameB ix (wipe σ vs) σ') (hi : ∀ j ∈ ix, j ∈ vs) : wipe σ' vs = wipe σ vs := by
  have hl : σ'.length = σ.length := h.1.trans (wipe_length σ vs)
  apply List.ext_getElem?
  intro j
  by_cases hj : j ∈ vs
  · by_cases hlt : j < σ.length
    · rw [wipe_in hj (by rw [hl]; exact hlt), wipe_in hj hlt]
    · rw [List.getElem?_eq_none (by rw [wipe_length]; omega), List.getElem?_eq_none (by rw [wipe_length]; omega)]
  · rw [wipe_out hj]
    exact h.2 j fun z => hj (hi j z)
section
variable {g : Gx} {F F' : Hp} {ρ ρ' : List Addr} {H H' : Hp} {σ : St} {σi : List SV} {cs : List Cell}
theorem wipeI_out {j : Nat} : ∀ {vs : List Nat}, j ∉ vs → (wipeI σi vs)[j]? = σi[j]?
  | [], _ => rfl
  | v :: vs, h => by
    unfold wipeI
    rw [List.getElem?_set_ne (fun z => h (by rw [z]; exact List.mem_cons_self))]
    exact wipeI_out fun z => h (List.mem_cons_of_mem _ z)
theorem wipeI_length (σ : List SV) : ∀ vs : List Nat, (wipeI σ vs).length = σ.length
  | [] => rfl
  | v :: vs => by unfold wipeI; rw [List.length_set, wipeI_length σ vs]
theorem wipeI_in {j : Nat} {s : SV} : ∀ {vs : List Nat}, j ∈ vs → (wipeI σi vs)[j]? = some s → s = .un
  | [], h, _ => by simp at h
  | v :: vs, h, e => by
    unfold wipeI at e
    by_cases z : v = j
    · subst z
      by_cases hl : v < (wipeI σi vs).length
      · rw [List.getElem?_set_self hl] at e
        exact (Option.some.inj e).symm
      · rw [List.getElem?_eq_none (by rw [List.length_set]; omega)] at e
        cases e
    · rw [List.getElem?_set_ne z] at e
      exact wipeI_in ((List.mem_cons.mp h).resolve_left (Ne.symm z)) e
theorem Slts.wipe (hl : Slts g F ρ H σi σ) (vs : List Nat) : Slts g F ρ H (wipeI σi vs) (L2.wipe σ vs) ∧ ∀ a, Own (wipeI σi vs) (L2.wipe σ vs) a → Own σi σ a := by
  have key : ∀ {j : Nat} {us : List IV}, (wipeI σi vs)[j]? = some (SV.own us) → j ∉ vs ∧ σi[j]? = some (SV.own us) := fun {j us} e => by
    have hj : j ∉ vs := fun z => by cases wipeI_in z e
    exact ⟨hj, by rw [wipeI_out hj] at e; exact e⟩
  refine ⟨⟨by rw [wipeI_length, wipe_length, hl.len], fun j s e => ?_, fun j k xs ys a e1 e2 h1 h2 => ?_⟩, fun a ⟨j, xs, e1, e2⟩ => ?_⟩
  · by_cases hj : j ∈ vs
    · rw [wipeI_in hj e]
      trivial
    · rw [wipeI_out hj] at e
      rw [wipe_out hj]
      exact hl.at_ j s e
  · obtain ⟨n1, k1⟩ := key e1
    obtain ⟨n2, k2⟩ := key e2
    rw [wipe_out n1] at h1
    rw [wipe_out n2] at h2
    exact hl.ow j k xs ys a k1 k2 h1 h2
  · obtain ⟨n1, k1⟩ := key e1
    rw [wipe_out n1] at e2
    exact ⟨j, xs, k1, e2⟩
/-- a list that is being built at D -/
structure Dk (F : Hp) (ρ : List Addr) (H : Hp) (D : Addr) (vs : List V) : Prop where
  at_ : H D = some (.lst vs)
  nf : F D = none
  nr : D ∉ ρ
theorem Dk.stp {D : Addr} {vs : List V} (d : Dk F ρ H D vs) (t : Stp F ρ H F' ρ' H') : Dk F' ρ' H' D vs := by
  refine ⟨t.fr D _ d.at_ (fun ps z => by cases z) d.nr (fun z => z), ?_, fun z => ?_⟩
  · cases q : F' D with
    | none => rfl
    | some o =>
      rcases t.fn D (by rw [q]; intro z; cases z) d.nf with z | z | z
      · rw [d.at_] at z; cases z
      · exact z.elim
      · exact absurd z d.nr
  · rcases t.rn D z d.nr with q | q
    · rw [d.at_] at q; cases q
    · exact q
theorem Dk.wr {D : Addr} {vs ws : List V} (d : Dk F ρ H D vs) (hs : Sim g F ρ cs H) : Sim g F ρ cs (upd H D (.lst ws)) ∧ StpU (fun a => a = D) F ρ H F ρ (upd H D (.lst ws)) ∧ Dk F ρ (upd H D (.lst ws)) D ws := by
  have np : ∀ a ∈ ρ, a ≠ D := fun a ha z => d.nr (by rw [← z]; exact ha)
  refine ⟨⟨fun a u h => ?_, hs.len, hs.nd, fun a ha => ?_, hs.lv, fun n c a e1 e2 => ?_, tabs_upd hs.tb (by rw [d.at_]; exact NoX.lst), fun a ha => by rw [upd_ne (np a ha)]; exact hs.nx a ha, hs.ft⟩, ⟨fun _ _ h => h, fun a h h' => absurd h' h, ⟨[], by simp⟩, fun a h h' => absurd h h', fun a u h _ _ hu => ?_, fun a h => ?_⟩, ⟨upd_same, d.nf, d.nr⟩⟩
  · rw [upd_ne (fun z => by rw [z, d.nf] at h; cases h)]
    exact hs.fz a u h
  · rw [upd_ne (np a ha)]
    exact hs.av a ha
  · rw [upd_ne (np a (List.mem_of_getElem? e2))]
    exact hs.ok n c a e1 e2
  · rw [upd_ne hu]
    exact h
  · by_cases e : a = D
    · rw [e, upd_same]; intro z; cases z
    · rw [upd_ne e]; exact h
theorem Slts.wrD {D : Addr} {ws : List V} (hl : Slts g F ρ H σi σ) (hn : ∀ (j : Nat) (xs : List IV), σi[j]? = some (SV.own xs) → σ[j]? ≠ some (some (.ref D))) : Slts g F ρ (upd H D (.lst ws)) σi σ := by
  refine ⟨hl.len, fun j s e => ?_, hl.ow⟩
  have q := hl.at_ j s e
  cases s with
  | un => trivial
  | exn e a cls d => exact q
  | v x => exact q
  | own us =>
    obtain ⟨a, ws', e', q1, q2, q3, q4⟩ := q
    refine ⟨a, ws', e', ?_, q2, q3, q4⟩
    rw [upd_ne (fun z => hn j us e (by rw [e', z]))]
    exact q1
end
def JTs (X : Cx) (n : Nat) (W : WX) (e : List Expr) (m : M Bool) : Prop := PTs X e (tG (gx X) n W RB m)
abbrev W0 : WX := fun _ _ _ _ => False
section
variable {X : Cx} {n : Nat} {W : WX} {tg iter elt : Expr} {ifs : List Expr} {mi : M (List IV)} {gm : GM} {mt : M Bool} {me : M IV} {pos : Pos} {scope : Scope} {own : List (Str × Nat)} {ix : List Nat}
theorem jts_nil : JTs X n W [] (M.pure true) := by
  refine ⟨fun pins s σ H Q I h => ?_⟩
  obtain ⟨F, ρ, cs, σi, hs, hl, hp⟩ := h
  exact pts_nil.run pins s σ H Q I (hp F ρ H true StpU.refl hs rfl)
theorem jts_one {c : Expr} (h : JT X n W c mt) : JTs X n W [c] mt := pts_one h
theorem lc_run {g : Gx} {σ : St} {H : Hp} {Q : VK} (hix : ∀ j ∈ ix, j ∈ own.map (·.2)) (h : tG g n W (Rel g) (eLc mi gm mt me (own.map (·.2))) σ H Q) : tLc (tG g n W (RI g) mi) (tGm g ix gm) (tG g n W0 RB mt) (tG g n W0 (Rel g) me) (own.map (·.2)) σ H Q := by
  obtain ⟨F, ρ, cs, σi, hs, hl, hp⟩ := h
  refine go hs hl hp fun J H1 F1 ρ1 cs1 xs st1 hs1 hl1 r1 hp1 D hD => ?_
  generalize hvs : own.map (·.2) = vs at hp1 hix ⊢
  replace hp1 : Pst g W σ (Rel g) F1 ρ1 H1 ((cmpL gm mt me n (wipeI σi vs) xs [] cs1).then fun ys cs' => .ok (.lst ys) cs') Q := hp1
  obtain ⟨r0, hr0⟩ : ∃ r0, cmpL gm mt me n (wipeI σi vs) xs [] cs1 = r0 := ⟨_, rfl⟩
  rw [hr0] at hp1
  obtain ⟨hs2, st2, f2, n2⟩ := hs1.lay (o := .lst []) hD
  have hl2 := hl1.stp st2
  have hnD : ∀ (j : Nat) (xs : List IV), σi[j]? = some (SV.own xs) → σ[j]? ≠ some (some (.ref D)) := fun j ys e1 e2 => by
    obtain ⟨b, ws, e3, e4, _⟩ := hl1.at_ j _ e1
    rw [e2] at e3
    cases e3
    rw [hD] at e4
    cases e4
  refine ⟨fun i m H => m = xs.length - i ∧ i ≤ xs.length ∧ ∃ F ρ cs acc accv, StpU (fun a => a = D) F1 ρ1 (upd H1 D (.lst [])) F ρ H ∧ Sim g F ρ cs H ∧ Slts g F ρ H σi σ ∧ Dk F ρ H D accv ∧ RelL g F ρ acc accv ∧
      cmpL gm mt me n (wipeI σi vs) (xs.drop i) acc cs = r0, ⟨xs.length, by simp, Nat.zero_le _, F1, ρ1, cs1, [], [], StpU.refl, hs2, hl2, ⟨upd_same, f2, n2⟩, .nil, hr0⟩, ?_⟩
  rintro i m H3 ⟨rfl, hi3, F3, ρ3, cs3, acc, accv, st3, hs3, hl3, dk3, ra3, e3⟩
  have hf : ∀ a o, F1 a = some o → F3 a = some o := st3.fz
  obtain ⟨k1, k2⟩ := r1 F3 ρ3 cs3 H3 hf st3.rp hs3
  by_cases hlt : i < xs.length
  · right
    have ei : xs[i]? = some xs[i] := List.getElem?_eq_getElem hlt
    obtain ⟨g1, g2⟩ := k1 i _ ei
    rw [List.drop_eq_getElem_cons hlt] at e3
    refine ⟨g1, fun H' => i < xs.length ∧ ∃ F ρ cs acc accv, StpU (fun a => a = D) F1 ρ1 (upd H1 D (.lst [])) F ρ H' ∧ Sim g F ρ cs H' ∧ Slts g F ρ H' σi σ ∧ Dk F ρ H' D accv ∧ RelL g F ρ acc accv ∧
      cmpL gm mt me n (wipeI σi vs) (xs.drop (i + 1)) acc cs = r0, fun H' ⟨h, q⟩ => ⟨xs.length - (i + 1), by omega, rfl, h, q⟩, fun v H4 y => ?_⟩
    obtain ⟨F4, st4, hs4, r4⟩ := g2 v H4 y
    have hl4 := hl3.stp st4
    have dk4 := dk3.stp st4
    have ra4 := ra3.stp st4
    obtain ⟨hw4, ow4⟩ := hl4.wipe vs
    have bad : ∀ {r : Res (List IV)}, r = r0 → r = .stuck → False := fun {r} e1 e2 => by
      rw [← e1, e2] at hp1
      exact hp1
    unfold cmpL at e3
    cases eg : gm xs[i] (wipeI σi vs) with
    | none => rw [eg] at e3; exact (bad e3 rfl).elim
    | some σ5 =>
      rw [eg] at e3
      simp only at e3
      refine ⟨F4, ρ3, cs3, wipeI σi vs, _, σ5, hs4, hw4, r4, eg, fun σ' l5 o5 s5 => ⟨wipe_same s5 hix, ?_⟩⟩
      refine ⟨F4, ρ3, cs3, σ5, hs4, l5, ?_⟩
      cases et : mt n σ5 cs3 with
      | stuck => rw [et] at e3; exact (bad e3 rfl).elim
      | ex _ _ => rw [et] at e3; exact (bad e3 rfl).elim
      | ok b cs5 =>
        rw [et] at e3
        intro F6 ρ6 H6 b' st6 hs6 rb
        have rb' : b = b' := rb
        subst rb'
        have hl6 := hl4.stp st6
        have dk6 := dk4.stp st6
        have ra6 := ra4.stp st6
        have tt6 : StpU (fun a => a = D) F1 ρ1 (upd H1 D (.lst [])) F6 ρ6 H6 := StpU.trans (StpU.trans st3 st4 (fun x z => z.elim)) st6 (fun x z => z.elim)
        cases b with
        | false =>
          rw [if_neg Bool.false_ne_true]
          exact ⟨hlt, F6, ρ6, cs5, acc, accv, tt6, hs6, hl6, dk6, ra6, e3⟩
        | true =>
          rw [if_pos rfl]
          simp only at e3
          refine ⟨F6, ρ6, cs5, σ5, hs6, l5.stp st6, ?_⟩
          cases ee : me n σ5 cs5 with
          | stuck => rw [ee] at e3; exact (bad e3 rfl).elim
          | ex _ _ => rw [ee] at e3; exact (bad e3 rfl).elim
          | ok z cs7 =>
            rw [ee] at e3
            intro F7 ρ7 H7 w st7 hs7 r7
            have hl7 := hl6.stp st7
            have dk7 := dk6.stp st7
            have ra7 := ra6.stp st7
            have tt7 := StpU.trans tt6 st7 (fun x z => z.elim)
            simp only at e3
            by_cases hz : acc.length < lim
            · rw [if_pos hz] at e3
              obtain ⟨w1, w2, w3⟩ := dk7.wr hs7 (ws := accv ++ [w])
              exact ⟨accv, dk7.at_, by rw [← ra7.len]; exact Nat.lt_of_lt_of_le hz (by decide), hlt, F7, ρ7, cs7, acc ++ [z], accv ++ [w], StpU.trans tt7 w2 (fun x z => .inl z), w1, hl7.wrD hnD, w3, ra7.append (.cons r7 .nil), e3⟩
            · rw [if_neg hz] at e3
              exact (bad e3 rfl).elim
  · left
    have hi2 : i = xs.length := by omega
    subst hi2
    rw [List.drop_length] at e3
    refine ⟨k2, ?_⟩
    have hp2 : Pst g W σ (Rel g) F1 ρ1 H1 (r0.then fun ys cs' => .ok (.lst ys) cs') Q := hp1
    rw [show r0 = .ok acc cs3 from e3.symm] at hp2
    have fm : ∀ b u, F3 b = some u → upd F3 D (.lst accv) b = some u := fun b u h => upd_none dk3.nf h
    have t1 : StpU (fun a => a = D) F1 ρ1 H1 (upd F3 D (.lst accv)) ρ3 H3 := by
      have t2 : StpU (fun a => a = D) F3 ρ3 H3 (upd F3 D (.lst accv)) ρ3 H3 := ⟨fm, fun b h h' => by
        by_cases z : b = D
        · right; exact .inl z
        · rw [upd_ne z] at h; exact absurd h' h, ⟨[], by simp⟩, fun b h h' => absurd h h', fun b u h _ _ _ => h, fun _ h => h⟩
      exact StpU.trans (StpU.trans st2.u st3 (fun x z => .inl z)) t2 (fun x z => .inl z)
    have t3 : Stp F1 ρ1 H1 (upd F3 D (.lst accv)) ρ3 H3 := by
      refine ⟨t1.fz, fun a h h' => ?_, t1.rp, fun a h h' => ?_, fun a u h nt hr _ => t1.fr a u h nt hr (fun z => ?_), t1.dm⟩
      · rcases t1.fn a h h' with z | z | z
        · exact .inl z
        · left; rw [z]; exact hD
        · exact .inr (.inr z)
      · rcases t1.rn a h h' with z | z
        · exact .inl z
        · left; rw [z]; exact hD
      · rw [z, hD] at h; cases h
    have hs9 : Sim g (upd F3 D (.lst accv)) ρ3 cs3 H3 := by
      refine ⟨fun b u h => ?_, hs3.len, hs3.nd, hs3.av, fun n c b e1 e2 e3 => ?_, fun n c b e1 e2 => (hs3.ok n c b e1 e2).mono fm ⟨[], by simp⟩, hs3.tb, hs3.nx, ft_upd hs3.ft (fun _ z => by cases z)⟩
      · by_cases z : b = D
        · subst z
          rw [upd_same] at h
          rw [dk3.at_, h]
        · rw [upd_ne z] at h; exact hs3.fz b u h
      · rw [upd_ne (fun z => dk3.nr (by rw [← z]; exact List.mem_of_getElem? e2))]
        exact hs3.lv n c b e1 e2 e3
    refine hp2 _ ρ3 H3 _ t3 hs9 ?_
    simp only [Rel]
    exact ⟨D, accv, rfl, upd_same, ra3.mono fm ⟨[], by simp⟩⟩
theorem je_lc (hc : X.calm = true) (hN : X.N.Nodup) (hi : JI X n W tg iter mi) (ok : BlkOk X.N X.env.scope scope own) (hix : ∀ j ∈ ix, j ∈ own.map (·.2))
    (hg : ∀ (s : Shared) (H : Hp) (C : Addr) (cl : List (Str × Addr)) (fp : List Addr), JG (X.blk s H scope (compEnvC scope cl C X.env) fp) tg ix gm) (ht : ∀ (s : Shared) (H : Hp) (C : Addr) (cl : List (Str × Addr)) (fp : List Addr), JTs (X.blk s H scope (compEnvC scope cl C X.env) fp) n W0 ifs mt)
    (he : ∀ (s : Shared) (H : Hp) (C : Addr) (cl : List (Str × Addr)) (fp : List Addr), JE (X.blk s H scope (compEnvC scope cl C X.env) fp) n W0 elt me) (hs : ∀ x, foldedSetIterable iter X.env x = pure x := by intro _; rfl) :
    JE X n W (.ListComp elt [⟨tg, iter, ifs, 0⟩] scope pos) (eLc mi gm mt me (own.map (·.2))) := by
  refine pe_imp (pe_lc (own := own) (g := tGm (gx X) ix gm) (tt := tG (gx X) n W0 RB mt) (te := tG (gx X) n W0 (Rel (gx X)) me) hc hN hi ok (fun s H C cl fp => hg s H C cl fp) (fun s H C cl fp => ht s H C cl fp) (fun s H C cl fp => he s H C cl fp) hs) fun σ H Q h => lc_run hix h
theorem js_setLc {i : Nat} {y : Str} {py spos : Pos} (hy : X.N[i]? = some y) (hyl : X.env.scope.names.lookup y = some .local) (hsw : swapsWith (.ListComp elt [⟨tg, iter, ifs, 0⟩] scope pos) (some (.Name y py)) spos.line X.env = pure true) (hc : X.calm = true) (hN : X.N.Nodup) (hi : JI X n W tg iter mi) (ok : BlkOk X.N X.env.scope scope own) (hix : ∀ j ∈ ix, j ∈ own.map (·.2))
    (hg : ∀ (s : Shared) (H : Hp) (C : Addr) (cl : List (Str × Addr)) (fp : List Addr), JG (X.blk s H scope (compEnvC scope cl C X.env) fp) tg ix gm) (ht : ∀ (s : Shared) (H : Hp) (C : Addr) (cl : List (Str × Addr)) (fp : List Addr), JTs (X.blk s H scope (compEnvC scope cl C X.env) fp) n W0 ifs mt)
    (he : ∀ (s : Shared) (H : Hp) (C : Addr) (cl : List (Str × Addr)) (fp : List Addr), JE (X.blk s H scope (compEnvC scope cl C X.env) fp) n W0 elt me) (hs : ∀ x, foldedSetIterable iter X.env x = pure x := by intro _; rfl) :
    JS X n W (.Assign [.Name y py] (.ListComp elt [⟨tg, iter, ifs, 0⟩] scope pos) spos) (sSet i (eLc mi gm mt me (own.map (·.2)))) := by
  refine ps_imp (ps_setLc (own := own) (g := tGm (gx X) ix gm) (tt := tG (gx X) n W0 RB mt) (te := tG (gx X) n W0 (Rel (gx X)) me) hc hN hy hyl hsw hi ok (fun s H C cl fp => hg s H C cl fp) (fun s H C cl fp => ht s H C cl fp) (fun s H C cl fp => he s H C cl fp) hs) fun D σ H h => lc_run hix (sSet_run h)
end
end SL

set_option Elab.async false
set_option linter.all false
set_option autoImplicit false
set_option maxRecDepth 100000
set_option maxHeartbeats 4000000
/-! SLFn: a def by its body; the law's end. -/
namespace SL
open PySem PySem.Spec L2
open PyProof.Rows hiding St
def startI (k : Nat) (xs : List IV) : List SV := xs.map SV.v ++ List.replicate (k - xs.length) SV.un
/-- a def's mirror, by its body's -/
def fnM (k : Nat) (b : SM) : FM := fun n xs cs => match b n (startI k xs) cs with
  | .next _ cs' => .ok .non cs'
  | .ret x cs' => .ok x cs'
  | .ex e _ cs' => .ex e cs'
  | _ => .stuck
section
variable {P : Program} {w : World} {K : PySem.W.Frag} {mg : Str → Option Value} {base : Heap} {n k : Nat}
theorem start_rel {g : Gx} {F : Hp} {ρ : List Addr} {H : Hp} : ∀ (N : List Str) {xs : List IV} {vs : List V}, RelL g F ρ xs vs → Slts g F ρ H (startI N.length xs) (L2.start N vs) := by
  intro N xs vs r
  have hl := r.len
  refine ⟨by unfold startI L2.start; simp [hl], fun i s e => ?_, fun i j ys zs a e => ?_⟩
  · unfold startI at e
    by_cases hi : i < xs.length
    · rw [List.getElem?_append_left (by simpa using hi), List.getElem?_map] at e
      obtain ⟨x, e1, rfl⟩ := Option.map_eq_some_iff.mp e
      obtain ⟨v, e2, r2⟩ := r.get e1
      refine ⟨v, ?_, r2⟩
      unfold L2.start
      rw [List.getElem?_append_left (by rw [List.length_map, ← hl]; exact hi), List.getElem?_map, e2]
      rfl
    · rw [List.getElem?_append_right (by simpa using hi), List.getElem?_replicate] at e
      split at e
      · cases e; trivial
      · cases e
  · unfold startI at e
    by_cases hi : i < xs.length
    · rw [List.getElem?_append_left (by simpa using hi), List.getElem?_map] at e
      obtain ⟨x, e1, e2⟩ := Option.map_eq_some_iff.mp e
      cases e2
    · rw [List.getElem?_append_right (by simpa using hi), List.getElem?_replicate] at e
      split at e <;> cases e
theorem start_own {N : List Str} {xs : List IV} {vs : List V} {a : Addr} (h : Own (startI N.length xs) (L2.start N vs) a) : False := by
  obtain ⟨i, ys, e, _⟩ := h
  unfold startI at e
  by_cases hi : i < xs.length
  · rw [List.getElem?_append_left (by simpa using hi), List.getElem?_map] at e
    obtain ⟨x, e1, e2⟩ := Option.map_eq_some_iff.mp e
    cases e2
  · rw [List.getElem?_append_right (by simpa using hi), List.getElem?_replicate] at e
    split at e <;> cases e
/-- a body's mirror tells what the def gives -/
theorem body_run {g : Gx} {N : List Str} {bm : SM} {vs : List V} {H : Hp} {Q : VK} {E : XK} (h : spM g n (fnM N.length bm) vs H Q E) : tS g n (fun cls d _ H' => E cls d H') bm { nx := fun _ H' => Q .non H', rt := Q } (L2.start N vs) H := by
  obtain ⟨F, ρ, cs, xs, hs, r, hp⟩ := h
  refine ⟨F, ρ, cs, _, hs, start_rel N r, ?_⟩
  have t0 : ∀ {F' ρ' H'}, StpU (Own (startI N.length xs) (L2.start N vs)) F ρ H F' ρ' H' → Stp F ρ H F' ρ' H' := fun {F' ρ' H'} t =>
    ⟨t.fz, fun a h h' => (t.fn a h h').imp id fun z => z.elim (fun z => (start_own z).elim) .inr, t.rp, fun a h h' => (t.rn a h h').elim .inl fun z => (start_own z).elim, fun a o h nt hr _ => t.fr a o h nt hr fun z => start_own z, t.dm⟩
  unfold fnM at hp
  cases e : bm n (startI N.length xs) cs with
  | next σ' cs' =>
    rw [e] at hp
    exact fun F' ρ' H' σ' t s l o => hp F' ρ' H' .non (t0 t) s (by simp only [Rel])
  | ret x cs' =>
    rw [e] at hp
    exact fun F' ρ' H' v t s r => hp F' ρ' H' v (t0 t) s r
  | ex y σ' cs' =>
    rw [e] at hp
    exact fun F' ρ' H' σ' cls d t s l o r => hp F' ρ' H' cls d (t0 t) s r
  | brk σ' cs' => rw [e] at hp; exact hp.elim
  | cnt σ' cs' => rw [e] at hp; exact hp.elim
  | stuck => rw [e] at hp; exact hp.elim
/-- the context of a def's body -/
abbrev bX (P : Program) (w : World) (K : PySem.W.Frag) (mg : Str → Option Value) (base : Heap) (N : List Str) (qual : Str) (scope : Scope) (f : Addr) (cd : Value) (A : Around) (outer : List Env) (s : Shared) (H : Hp) (E : XK) : Cx := cxOf (L2.CX P w) P w K mg base N qual scope f cd A outer s H E
abbrev bW (E : XK) : WX := fun cls d _ H => E cls d H
theorem tk_b {N : List Str} {qual : Str} {scope : Scope} {f : Addr} {cd : Value} {A : Around} {outer : List Env} {s : Shared} {H : Hp} {E : XK} : Takes (bX P w K mg base N qual scope f cd A outer s H E) (bW E) := takes_of rfl rfl rfl rfl
theorem ps_b {N : List Str} {qual : Str} {scope : Scope} {f : Addr} {cd : Value} {A : Around} {outer : List Env} {s : Shared} {H : Hp} {E : XK} : PassesOwn (model P w) (bX P w K mg base N qual scope f cd A outer s H E).A (bX P w K mg base N qual scope f cd A outer s H E).env (bX P w K mg base N qual scope f cd A outer s H E).xe := passes_of rfl
/-- what a body is to be shown -/
def BodyG (P : Program) (w : World) (K : PySem.W.Frag) (mg : Str → Option Value) (base : Heap) (n k : Nat) (N : List Str) (qual : Str) (scope : Scope) (body : List Stmt) (bm : SM) : Prop :=
  ∀ (f : Addr) (cd : Value) (A : Around) (outer : List Env) (s : Shared) (H : Hp) (E : XK), Room k (bX P w K mg base N qual scope f cd A outer s H E).A → (bX P w K mg base N qual scope f cd A outer s H E).A.guards = some [] → JB (bX P w K mg base N qual scope f cd A outer s H E) n (bW E) body bm
theorem fnG_of {f : Addr} {name qual : Str} {params : Arguments} {body : List Stmt} {scope : Scope} {dV kV doc pm cdv ct oc : Value} {an od : Option Addr} {osl : Array (Option Value)} {N ps : List Str} {bm : SM}
    (lk : K.lookup f = some ⟨oc, od, .func (PySem.W.fnOf name qual params body scope dV kV doc pm an cdv ct), osl⟩) (hcd : PySem.W.codeIn K cdv qual = true) (S : FnScope N ps scope) (hb : BodyG P w K mg base n k N qual scope body bm) :
    FnG P w K mg base n (k + 1) f (PySem.W.fnOf name qual params body scope dV kV doc pm an cdv ct) ps (fnM N.length bm) := by
  refine ⟨fun A outer s H args us vs Q E hr hgd e0 hbd r hl hsp => ?_⟩
  refine LamX.run_ofS lk hcd S hr e0 hbd r hl fun hr' => ?_
  exact ⟨_, hb f cdv A outer s H E hr' (by exact hgd), body_run hsp⟩
/-- a def of the module, found in the written part -/
theorem defG_of {h : Heap} {x : Str} {f : Addr} {st : Stmt} {kV doc pm cdv ct oc : Value} {an od : Option Addr} {osl : Array (Option Value)} {N ps : List Str} {bm : SM} (X : K.In h) (G : h.Ns mainGlobals mg)
    (a1 : PySem.W.nsIn K mainGlobals x = some (some (.ref f))) (lk : K.lookup f = some ⟨oc, od, .func (PySem.W.fnOf x x (defArgs st) (defBody st) (defScope st) .none kV doc pm an cdv ct), osl⟩) (hcd : PySem.W.codeIn K cdv x = true) (kp : PySem.W.keepIn K (.ref f) = true)
    (S : FnScope N ps (defScope st)) (hbd : ∀ us : List Value, us.length = ps.length → bindArgs (PySem.W.fnOf x x (defArgs st) (defBody st) (defScope st) .none kV doc pm an cdv ct) ⟨us, []⟩ = pure (ps.zip us)) (hb : BodyG P w K mg base n k N x (defScope st) (defBody st) bm) :
    DefG P w K mg base n (k + 1) x ps [] (fnM N.length bm) :=
  ⟨f, _, [], [], PySem.W.mg_of X G a1, kp, Binds.all hbd, .nil, fun _ _ => .nil, fnG_of lk hcd S hb⟩
end

/-- a def that makes lambdas: its code object is c -/
def BodyL (P : Program) (w : World) (K : PySem.W.Frag) (mg : Str → Option Value) (base : Heap) (n k : Nat) (N : List Str) (qual : Str) (scope : Scope) (body : List Stmt) (bm : SM) (c : Addr) : Prop :=
  ∀ (f : Addr) (A : Around) (outer : List Env) (s : Shared) (H : Hp) (E : XK), Room k (bX P w K mg base N qual scope f (.ref c) A outer s H E).A → (bX P w K mg base N qual scope f (.ref c) A outer s H E).A.guards = some [] → JB (bX P w K mg base N qual scope f (.ref c) A outer s H E) n (bW E) body bm
section
variable {P : Program} {w : World} {K : PySem.W.Frag} {mg : Str → Option Value} {base : Heap} {n k : Nat}
theorem fnG_ofL {f c : Addr} {name qual : Str} {params : Arguments} {body : List Stmt} {scope : Scope} {dV kV doc pm ct oc : Value} {an od : Option Addr} {osl : Array (Option Value)} {N ps : List Str} {bm : SM}
    (lk : K.lookup f = some ⟨oc, od, .func (PySem.W.fnOf name qual params body scope dV kV doc pm an (.ref c) ct), osl⟩) (hcd : PySem.W.codeIn K (.ref c) qual = true) (S : FnScope N ps scope) (hb : BodyL P w K mg base n k N qual scope body bm c) :
    FnG P w K mg base n (k + 1) f (PySem.W.fnOf name qual params body scope dV kV doc pm an (.ref c) ct) ps (fnM N.length bm) := by
  refine ⟨fun A outer s H args us vs Q E hr hgd e0 hbd r hl hsp => ?_⟩
  refine LamX.run_ofS lk hcd S hr e0 hbd r hl fun hr' => ?_
  exact ⟨_, hb f A outer s H E hr' (by exact hgd), body_run hsp⟩
theorem defG_ofL {h : Heap} {x : Str} {f c : Addr} {st : Stmt} {kV doc pm ct oc : Value} {an od : Option Addr} {osl : Array (Option Value)} {N ps : List Str} {bm : SM} (X : K.In h) (G : h.Ns mainGlobals mg)
    (a1 : PySem.W.nsIn K mainGlobals x = some (some (.ref f))) (lk : K.lookup f = some ⟨oc, od, .func (PySem.W.fnOf x x (defArgs st) (defBody st) (defScope st) .none kV doc pm an (.ref c) ct), osl⟩) (hcd : PySem.W.codeIn K (.ref c) x = true) (kp : PySem.W.keepIn K (.ref f) = true)
    (S : FnScope N ps (defScope st)) (hbd : ∀ us : List Value, us.length = ps.length → bindArgs (PySem.W.fnOf x x (defArgs st) (defBody st) (defScope st) .none kV doc pm an (.ref c) ct) ⟨us, []⟩ = pure (ps.zip us)) (hb : BodyL P w K mg base n k N x (defScope st) (defBody st) bm c) :
    DefG P w K mg base n (k + 1) x ps [] (fnM N.length bm) :=
  ⟨f, _, [], [], PySem.W.mg_of X G a1, kp, Binds.all hbd, .nil, fun _ _ => .nil, fnG_ofL lk hcd S hb⟩
end

/-! ### the law's end -/
/-- what is known of the tables at the start -/
structure TabsOk (K : PySem.W.Frag) (h : Heap) : Prop where
  mt : ∀ p ∈ lamT K, h.get? p.1 = some { cls := .none, data := .fields #[] }
  nk : ∀ p ∈ lamT K, K.lookup p.1 = none
  cd : ∀ p ∈ lamT K, ∃ c, PySem.W.CodeHd h c p.1
/-- what a lambda's making asks of the ground -/
def TabsB (K : PySem.W.Frag) (mg : Str → Option Value) (base : Heap) : Prop := ∀ p ∈ lamT K, base.BuiltinsAt mg p.1 ∧ mainGlobals ≠ p.1
theorem endG {P : Program} {w : World} {K : PySem.W.Frag} {mg mb : Str → Option Value} {k : Nat} {fa a : Addr} {fd : FuncData} {x : Str} {fm : FM} {s₁ : Shared} {vs : List Value} {ns : List Int} {n : Nat} {cs' : List Cell}
    (KX : K.In s₁.heap) (hns : s₁.heap.Ns mainGlobals mg) (hb : s₁.heap.Ns builtinsNs mb) (hbb : ∀ x : Str, x ≠ "__name__" → mb x = bootBuiltins x) (hlim : s₁.heap.NoLimit) (hg : s₁.gens = #[]) (hT : TabsOk K s₁.heap)
    (hbm : ∃ (bm : Addr) (ob : Obj), mg "__builtins__" = some (.ref bm) ∧ bm ≠ builtinsNs ∧ s₁.heap.get? bm = some ob ∧ ob.cls = .type "module" ∧ ob.dict = some builtinsNs ∧ ob.data = .plain)
    (ha : s₁.heap.get? a = some { cls := .type "list", data := .seq vs.toArray }) (hi : IntsAre vs ns) (hl : ns.length ≤ sizeLine) (hr : Room k callerA) (hbind : ∀ (s : Shared) (u : Value), BindsTo s fd ⟨[u], []⟩ [(x, u)])
    (hm : fm n [.rol (ns.map IV.int)] [] = .ok (.bl true) cs') (G : ∀ base : Heap, K.In base → base.Ns mainGlobals mg → TabsB K mg base → FnG P w K mg base n k fa fd [x] fm) :
    codeAny (model P w) callerA (.call (.ref fa) ⟨[.ref a], []⟩) (fun r s' => r = .ok (.ret (.bool true)) ∧ OldK s₁.heap s'.heap ∧ s'.os = s₁.os ∧ AllBare s'.gens) s₁ := by
  have rv := vals_ints hi
  have lenV := hi.length
  have isTb : ∀ b ∈ (lamT K).map (·.1), s₁.heap.get? b = some { cls := .none, data := .fields #[] } := fun b hb => by
    obtain ⟨p, hp, rfl⟩ := List.mem_map.mp hb
    exact hT.mt p hp
  have aT : a ∉ (lamT K).map (·.1) := fun z => by
    have q := isTb a z
    rw [ha] at q
    cases q
  -- the script and the tables, known to the object
  obtain ⟨H, F0, hF0, hF1, hH, hHT, hK, hS⟩ : ∃ H F0 : Hp, (∀ b o, F0 b = some o → H b = some o) ∧ (∀ b ps, F0 b ≠ some (.tbl ps)) ∧ (∀ b u, H b = some u → (b = a ∧ u = .frz { cls := .type "list", data := .seq vs.toArray } (.lst (ns.map V.int))) ∨ (b ∈ (lamT K).map (·.1) ∧ u = .tbl #[])) ∧ (∀ b ∈ (lamT K).map (·.1), H b = some (.tbl #[])) ∧ (H a ≠ none → K.lookup a = none) ∧ SqL K F0 a (ns.map V.int) := by
    cases hk : K.lookup a with
    | some o =>
      have e := KX a o hk
      rw [ha] at e
      cases e
      refine ⟨fun b => if b ∈ (lamT K).map (·.1) then some (.tbl #[]) else none, fun _ => none, fun b o z => (by cases z), fun b ps z => (by cases z), fun b u z => ?_, fun b hb => if_pos hb, fun z => absurd (if_neg aT) z, Or.inr ⟨_, vs.toArray, _, hk, rfl, rfl, rfl, by rw [List.size_toArray, lenV]; exact hl, by simpa using rv⟩⟩
      by_cases hb : b ∈ (lamT K).map (·.1)
      · exact .inr ⟨hb, (Option.some.inj ((if_pos hb).symm.trans z)).symm⟩
      · exact absurd ((if_neg hb).symm.trans z) (by intro z; cases z)
    | none =>
      refine ⟨fun b => if b = a then some (.frz { cls := .type "list", data := .seq vs.toArray } (.lst (ns.map V.int))) else if b ∈ (lamT K).map (·.1) then some (.tbl #[]) else none, fun b => if b = a then some (.frz { cls := .type "list", data := .seq vs.toArray } (.lst (ns.map V.int))) else none, fun b o z => ?_, fun b ps z => ?_, fun b u z => ?_, fun b hb => ?_, fun _ => rfl, .inl (.inr ⟨_, if_pos rfl⟩)⟩
      · by_cases hb : b = a
        · exact (if_pos hb).trans ((if_pos hb).symm.trans z)
        · exact absurd ((if_neg hb).symm.trans z) (by intro z; cases z)
      · by_cases hb : b = a
        · exact absurd ((if_pos hb).symm.trans z) (by intro z; cases z)
        · exact absurd ((if_neg hb).symm.trans z) (by intro z; cases z)
      · by_cases hb : b = a
        · exact .inl ⟨hb, (Option.some.inj ((if_pos hb).symm.trans z)).symm⟩
        · have z1 := (if_neg hb).symm.trans z
          by_cases hb2 : b ∈ (lamT K).map (·.1)
          · exact .inr ⟨hb2, (Option.some.inj ((if_pos hb2).symm.trans z1)).symm⟩
          · exact absurd ((if_neg hb2).symm.trans z1) (by intro z; cases z)
      · exact (if_neg (fun z => aT (by rw [← z]; exact hb))).trans (if_pos hb)
  have hok : HOk P w H s₁.heap := fun b u e => by
    rcases hH b u e with ⟨rfl, rfl⟩ | ⟨hb, rfl⟩
    · exact ⟨ha, by rw [List.length_map]; exact hl, vs, _, rv, ha⟩
    · exact isTb b hb
  have up : ∀ {b : Addr} {o : Obj}, s₁.heap.get? b = some o → H b = none → (hidT s₁.heap H).get? b = some o := fun e z => hidT_get e z
  have free : ∀ {b : Addr} {o : Obj}, s₁.heap.get? b = some o → (∀ vs n, o.data ≠ .seq vs n) → o.data ≠ .fields #[] → H b = none := fun {b o} e d1 d2 => by
    cases q : H b with
    | none => rfl
    | some u =>
      rcases hH b u q with ⟨rfl, _⟩ | ⟨hb, _⟩
      · rw [ha] at e
        cases e
        exact absurd rfl (d1 _ _)
      · rw [isTb b hb] at e
        cases e
        exact absurd rfl d2
  have noList : ∀ {b : Addr} {o : Obj} {es : Array DictEntry} {ep : Nat}, s₁.heap.get? b = some o → o.data = .dict es ep → H b = none := fun {b o es ep} e d =>
    free e (fun vs n z => by rw [d] at z; cases z) (fun z => by rw [d] at z; cases z)
  have nsUp : ∀ {b : Addr} {m : Str → Option Value}, s₁.heap.Ns b m → (hidT s₁.heap H).Ns b m := fun {b m} ⟨o, es, ep, e, d, r⟩ => ⟨o, es, ep, up e (noList e d), d, r⟩
  have KB : K.In (hidT s₁.heap H) := fun b o e => up (KX b o e) (by
    cases q : H b with
    | none => rfl
    | some u =>
      rcases hH b u q with ⟨rfl, _⟩ | ⟨hb, _⟩
      · rw [hK (by rw [q]; intro z; cases z)] at e
        cases e
      · obtain ⟨p, hp, rfl⟩ := List.mem_map.mp hb
        rw [hT.nk p hp] at e
        cases e)
  have TB : TabsB K mg (hidT s₁.heap H) := fun p hp => by
    have hTp := hT.mt p hp
    refine ⟨?_, fun z => ?_⟩
    · obtain ⟨bm, ob, b1, b2, b3, b4, b5, b6⟩ := hbm
      have nG : bm ≠ mainGlobals := fun q => by
        obtain ⟨o, es, ep, e, hd, _⟩ := hns
        rw [q, e] at b3
        cases b3
        rw [hd] at b6
        cases b6
      have nP : bm ≠ p.1 := fun q => by
        rw [q, hTp] at b3
        cases b3
        cases b6
      exact ⟨bm, ob, b1, b2, nG, nP, up b3 (free b3 (fun vs n z => by rw [b6] at z; cases z) (fun z => by rw [b6] at z; cases z)), b4, b5, b6⟩
    · obtain ⟨o, es, ep, e, hd, _⟩ := hns
      rw [z, hTp] at e
      cases e
      cases hd
  have e0 : Env0 P w K mg (hidT s₁.heap H) callerA [] s₁ H :=
    { frames := rfl
      mod := ⟨KB, nsUp hns, ⟨mb, nsUp hb, hbb⟩, let ⟨mc, h1, h2⟩ := hlim; ⟨mc, nsUp h1, h2⟩⟩
      bs := fun b o e => of_hidT e
      bsz := Nat.le_of_eq (hidT_size _ _)
      funs := trivial
      frf := fun b hb => absurd (show b ∈ ([] : List Addr) from hb) (by simp)
      hok := hok
      bare := .of_eq hg }
  have sim : Sim (gK K mg) F0 [] [] H := ⟨hF0, rfl, List.nodup_nil, fun a h => absurd h (by simp), fun n c a h => absurd h (by simp), fun n c a h => absurd h (by simp), fun p hp => LamX.TabS.nil (hHT p.1 (List.mem_map.mpr ⟨p, hp, rfl⟩)), fun a h => absurd h (by simp), hF1⟩
  have ri : ∀ ns : List Int, RelL (gK K mg) F0 [] (ns.map IV.int) (ns.map V.int) := fun ns => by
    induction ns with
    | nil => exact .nil
    | cons z r ih => exact .cons (by simp only [Rel]) ih
  have sp : spM (gK K mg) n fm [.ref a] H (fun v _ => v = .bl true) (fun _ _ _ => False) := by
    refine ⟨F0, [], [], [.rol (ns.map IV.int)], sim, .cons (by simp only [Rel]; exact ⟨a, _, rfl, hS, ri ns⟩) .nil, ?_⟩
    rw [hm]
    exact fun F' ρ' H' v _ _ r => relBl r
  refine codeAny_mono ((G _ KB (nsUp hns) TB).run callerA [] s₁ H ⟨[.ref a], []⟩ [.ref a] [.ref a] _ _ hr rfl e0 (hbind s₁ (.ref a)) (.cons rfl .nil) rfl sp) fun r s' h => ?_
  cases r with
  | error e =>
    obtain ⟨_, _, _, _, _, _, _, _, _, _, _, _, z⟩ := h
    exact z.elim
  | ok fl =>
    cases fl with
    | next => exact False.elim h
    | brk => exact False.elim h
    | cont => exact False.elim h
    | ret u =>
      obtain ⟨v, H', os, bare, un, hok', r', q⟩ := h
      have q' : v = .bl true := q
      subst q'
      obtain rfl : u = Value.bool true := r'
      have same : ∀ b o, b ∉ (lamT K).map (·.1) → s₁.heap.get? b = some o → s'.heap.get? b = some o := fun b o nb e => by
        cases q : H b with
        | none => exact un.keep b o e q (by intro z; exact absurd (show b ∈ ([] : List Addr) from z) (by simp)) (by simp)
        | some u =>
          rcases hH b u q with ⟨_, rfl⟩ | ⟨hb, _⟩
          · have z2 := un.frzs b _ _ q
            obtain ⟨e1, _⟩ := hok b _ q
            obtain ⟨e2, _⟩ := hok' b _ z2
            rw [e] at e1
            cases e1
            exact e2
          · exact absurd hb nb
      have more : ∀ p ∈ lamT K, ∃ ps : Array Value, s'.heap.get? p.1 = some { cls := .none, data := .fields ps } := fun p hp => by
        obtain ⟨ps, z⟩ := un.tbls p.1 #[] (hHT p.1 (List.mem_map.mpr ⟨p, hp, rfl⟩))
        exact ⟨_, hok' p.1 _ z⟩
      refine ⟨rfl, ⟨fun b o e => ?_, fun b o e => ?_⟩, os, bare⟩
      · by_cases hb : b ∈ (lamT K).map (·.1)
        · obtain ⟨p, hp, rfl⟩ := List.mem_map.mp hb
          obtain ⟨ps, hm⟩ := more p hp
          obtain ⟨c, hc⟩ := hT.cd p hp
          rw [hT.mt p hp] at e
          cases e
          exact .inr (.inl ⟨(hc.tab (hT.mt p hp)).isCodeTable, rfl, #[], ps, rfl, by rw [Array.empty_append]; exact hm⟩)
        · exact .inl (same b o hb e)
      · by_cases hb : b ∈ (lamT K).map (·.1)
        · obtain ⟨p, hp, rfl⟩ := List.mem_map.mp hb
          obtain ⟨ps, hm⟩ := more p hp
          exact ⟨_, hm⟩
        · exact ⟨o, same b o hb e⟩
/-- a table of a def of the top -/
theorem tabsOk_of {p : Program} {loose : List Str} {mean : ExcName → Option Value} {mg mb : Str → Option Value} {K : PySem.W.Frag} {h : Heap} (T : Top p loose mean mg mb h) (X : K.In h) (hr : ∀ x ∈ lamNames, ((recsOf p).find? (fun e => e.name == x)).isSome = true)
    (hn : ∀ x ∈ lamNames, ∃ c P, PySem.W.tabIn K x = some (c, P) ∧ K.lookup P = none) : TabsOk K h := by
  have key : ∀ q ∈ lamT K, ∃ x c, x ∈ lamNames ∧ PySem.W.tabIn K x = some (c, q.1) ∧ K.lookup q.1 = none := fun q hq => by
    obtain ⟨x, hx, e⟩ := List.mem_filterMap.mp hq
    obtain ⟨c, P, e1, e2⟩ := hn x hx
    rw [e1] at e
    simp only [Option.map_some, Option.some.injEq] at e
    rw [← e]
    exact ⟨x, c, hx, e1, e2⟩
  have tab : ∀ q ∈ lamT K, (∃ c, PySem.W.CodeHd h c q.1) ∧ h.get? q.1 = some { cls := .none, data := .fields #[] } := fun q hq => by
    obtain ⟨x, c, hx, e1, _⟩ := key q hq
    obtain ⟨d, hd⟩ := Option.isSome_iff_exists.mp (hr x hx)
    obtain ⟨h1, h2⟩ := PySem.W.tab_of T X hd e1
    exact ⟨⟨c, h1⟩, h2⟩
  exact ⟨fun q hq => (tab q hq).2, fun q hq => by obtain ⟨_, _, _, _, e⟩ := key q hq; exact e, fun q hq => (tab q hq).1⟩
theorem walkG {l : PySem.W.OpenLaw} {n k : Nat} {q : Program} {loose : List Str} {XP : (Str → Option Value) → Heap → Prop} {YP : World → Heap → Prop} {d : DefRec} {K : Params → PySem.W.Frag} {x : Str}
    (hn : l.most = some n) (hn2 : n ≤ sizeLine) (hdf : d.params.defaults = []) (hr : Room k callerA) (hY : ∀ (w : World) (h : Heap), YP w h → (K w.params).In h) (hq : ∀ x ∈ lamNames, ((recsOf q).find? (fun e => e.name == x)).isSome = true)
    (F : ∀ (w : World) (mg : Str → Option Value) (fa : Addr) (h : Heap), (K w.params).In h → h.Ns mainGlobals mg → mg d.name = some (.ref fa) → (∀ x ∈ lamNames, ∃ c P, PySem.W.tabIn (K w.params) x = some (c, P) ∧ (K w.params).lookup P = none) ∧
      ∃ (fd : FuncData) (fm : FM), (∀ (s : Shared) (u : Value), BindsTo s fd ⟨[u], []⟩ [(x, u)]) ∧ (∀ ns : List Int, ns.length ≤ n → (∀ z ∈ ns, Builtin.Int.intBits z ≤ 1048576) → ∃ fuel cs', fm fuel [.rol (ns.map IV.int)] [] = .ok (.bl true) cs') ∧
        ∀ (fuel : Nat) (base : Heap), (K w.params).In base → base.Ns mainGlobals mg → TabsB (K w.params) mg base → FnG l.prog w (K w.params) mg base fuel k fa fd [x] fm) :
    PySem.W.WalkO q loose XP YP l.row.toRowW d [] (fun f vs => PySem.call f vs) := by
  refine Att.attach_callB hn hdf fun w s₀ s₁ mg mb fa o pm cd doc a vs ns G Y ho hd hcd hmg hobj hints hlen hbits hg => ?_
  have KX := hY w _ Y
  obtain ⟨ht, fd, fm, hb, hm, hF⟩ := F w mg fa _ KX G.T.g hmg
  obtain ⟨fuel, cs', e⟩ := hm ns hlen hbits
  exact endG KX G.T.g G.T.b G.T.builtins G.T.nolimit hg (tabsOk_of G.T KX hq ht) G.T.bmain hobj hints (Nat.le_trans hlen hn2) hr hb e (hF fuel)
end SL

set_option Elab.async false
set_option linter.all false
set_option autoImplicit false
set_option maxRecDepth 100000
set_option maxHeartbeats 4000000
/-! SLMatch: match; dicts that stand still. -/
namespace SL
open PySem PySem.Spec L2
open PyProof.Rows hiding St
/-! ### match -/
def JC (X : Cx) (n : Nat) (W : WX) (cases : List MatchCase) (k : IV → SM) : Prop :=
  ∀ (pins : List (Addr × Obj)) (s : Shared) (σ : St) (H : Hp) (D : Ends) (v : V) (u : Value) (first : Bool), Inv X pins σ H s → RelV v u → (∃ F ρ cs σi x, Sim (gx X) F ρ cs H ∧ Slts (gx X) F ρ H σi σ ∧ Rel (gx X) F ρ x v ∧ PstS (gx X) W (Own σi σ) F ρ H (k x n σi cs) D) →
    wpAny (model X.prog X.w) X.A (matchCases cases X.env u first) (SP X pins D) X.xe s
def kNil : IV → SM := fun _ => sNext
def kVal (c : IV) (b : SM) (r : IV → SM) : IV → SM := fun x n σ cs => match cEq x c with
  | some (.bl true) => b n σ cs
  | some (.bl false) => r x n σ cs
  | _ => .stuck
def kAny (b : SM) : IV → SM := fun _ => b
def sMatch (m : M IV) (k : IV → SM) : SM := fun n σ cs => thenS (m n σ cs) σ fun x cs' => k x n σ cs'
section
variable {X : Cx} {n : Nat} {W : WX} {e : Expr} {body : List Stmt} {rest : List MatchCase} {m : M IV} {sb : SM} {k : IV → SM} {pos p p2 : Pos} {c : IV}
theorem jc_nil : JC X n W [] kNil := by
  intro pins s σ H D v u first I r h
  obtain ⟨F, ρ, cs, σi, x, hs, hl, rx, hp⟩ := h
  exact wpAny_matchCases_nil ⟨σ, H, I, hp.nextH StpU.refl hs hl fun x z => .inl z⟩
theorem jc_any (hb : JB X n W body sb) : JC X n W (⟨.MatchAs none none p, none, body⟩ :: rest) (kAny sb) := by
  intro pins s σ H D v u first I r h
  obtain ⟨F, ρ, cs, σi, x, hs, hl, rx, hp⟩ := h
  refine wpAny_matchCases_cons (wpAny_matchPattern_Capture ?_)
  show wpAny _ _ (assignInOrder [] []) _ _ s
  exact wpAny_assignInOrder_none (hb.run pins s σ H D I ⟨F, ρ, cs, σi, hs, hl, hp⟩)
theorem jc_val (hu : X.A.units + 64 < cLine) (he : JE X n W e (M.pure c)) (hb : JB X n W body sb) (hr : JC X n W rest k) : JC X n W (⟨.MatchValue e p, none, body⟩ :: rest) (kVal c sb k) := by
  intro pins s σ H D v u first I r h
  obtain ⟨F, ρ, cs, σi, x, hs, hl, rx, hp⟩ := h
  unfold kVal at hp
  have key : ∃ b, cEq x c = some (.bl b) := by
    split at hp
    · exact ⟨true, by assumption⟩
    · exact ⟨false, by assumption⟩
    · exact hp.elim
  obtain ⟨b, hb2⟩ := key
  rw [hb2] at hp
  refine wpAny_matchCases_cons (wpAny_matchPattern_Value (thn (he.run pins s σ H (fun y H1 => rJ (gx X) cEq v y H1 fun z H2 => z = .bl b ∧ ∃ F' ρ', StpU (Own σi σ) F ρ H F' ρ' H2 ∧ Sim (gx X) F' ρ' cs H2 ∧ Slts (gx X) F' ρ' H2 σi σ ∧ Rel (gx X) F' ρ' x v) I ⟨F, ρ, cs, σi, hs, hl, ?_⟩) fun w s1 ⟨y, H1, I1, ry, q1⟩ => ?_))
  · intro F1 ρ1 H1 y st1 hs1 r1
    refine ⟨F1, ρ1, cs, x, c, .bl b, hs1, rx.stp st1, r1, hb2, fun F2 ρ2 H2 z st2 hs2 r2 => ⟨relBl r2, F2, ρ2, (st1.tr st2).u, hs2, (hl.stp st1).stp st2, (rx.stp st1).stp st2⟩⟩
  · refine thn (oj_eq hu pins s1 σ H1 v y u w _ I1 r ry q1) fun cv s2 ⟨z, H2, I2, rz, ez, F2, ρ2, st2, hs2, hl2, rx2⟩ => ?_
    subst ez
    obtain rfl : cv = Value.bool b := rz
    refine wpAny_truthy_bool ?_
    cases b with
    | true =>
      show wpAny _ _ (assignInOrder [] []) _ _ s2
      exact wpAny_assignInOrder_none (hb.run pins s2 σ H2 D I2 ⟨F2, ρ2, cs, σi, hs2, hl2, PstS.stp hp st2 fun x z => .inl z⟩)
    | false => exact hr pins s2 σ H2 D v u false I2 r ⟨F2, ρ2, cs, σi, x, hs2, hl2, rx2, PstS.stp hp st2 fun x z => .inl z⟩
theorem js_match {cases : List MatchCase} (he : JE X n W e m) (hc : JC X n W cases k) : JS X n W (.Match e cases pos) (sMatch m k) := by
  refine ⟨fun pins s σ H D I h => ?_⟩
  obtain ⟨F, ρ, cs, σi, hs, hl, hp⟩ := h
  refine wpAny_Match (thn (he.run pins s σ H (fun v H1 => ∃ F1 ρ1 cs1 σi1 x, Sim (gx X) F1 ρ1 cs1 H1 ∧ Slts (gx X) F1 ρ1 H1 σi1 σ ∧ Rel (gx X) F1 ρ1 x v ∧ PstS (gx X) W (Own σi1 σ) F1 ρ1 H1 (k x n σi1 cs1) D) I ?_) fun u s1 ⟨v, H1, I1, r1, q1⟩ => hc pins s1 σ H1 D v u true I1 r1 q1)
  exact goS hs hl hp fun v H1 F1 ρ1 cs1 x st1 hs1 hl1 r1 hp1 => ⟨F1, ρ1, cs1, σi, x, hs1, hl1, r1, hp1⟩
end

/-! ### dicts that stand still -/
def keyI : IV → Option Key
  | .int i => some (.inl i)
  | .str s => some (.inr s)
  | _ => none
def putG {α : Type} (kvs : List (Key × α)) (k : Key) (v : α) : List (Key × α) :=
  if (kvs.any fun kv => decide (kv.1 = k)) = true then kvs.map (fun kv => if kv.1 = k then (kv.1, v) else kv) else kvs ++ [(k, v)]
def valG {α : Type} (kvs : List (Key × α)) (k : Key) : Option α := (kvs.find? fun kv => decide (kv.1 = k)).map (·.2)
def mergeG {α : Type} (kvs more : List (Key × α)) : List (Key × α) := more.foldl (fun acc kv => putG acc kv.1 kv.2) kvs
def prsI : List (IV × IV) → Option (List (Key × IV))
  | [] => some []
  | (k, x) :: r => match keyI k, prsI r with
    | some k, some r => some ((k, x) :: r)
    | _, _ => none
def dctI (kvs : List (Key × IV)) : IV := .dct (kvs.map (·.1)) (kvs.map (·.2))
/-- pairs, key by key the same -/
def RelK (g : Gx) (F : Hp) (ρ : List Addr) (a : List (Key × IV)) (b : List (Key × V)) : Prop := a.map (·.1) = b.map (·.1) ∧ RelL g F ρ (a.map (·.2)) (b.map (·.2))
section
variable {g : Gx} {F F' : Hp} {ρ ρ' : List Addr} {H H' : Hp}
theorem RelK.stp {U : Addr → Prop} {a : List (Key × IV)} {b : List (Key × V)} (r : RelK g F ρ a b) (t : StpU U F ρ H F' ρ' H') : RelK g F' ρ' a b := ⟨r.1, r.2.stp t⟩
theorem RelK.nil : RelK g F ρ [] [] := ⟨rfl, .nil⟩
theorem RelK.cons {k : Key} {x : IV} {v : V} {a : List (Key × IV)} {b : List (Key × V)} (r1 : Rel g F ρ x v) (r : RelK g F ρ a b) : RelK g F ρ ((k, x) :: a) ((k, v) :: b) := ⟨by simp [r.1], .cons r1 r.2⟩
theorem RelK.ind {P : List (Key × IV) → List (Key × V) → Prop} (h0 : P [] []) (h1 : ∀ k x v a b, Rel g F ρ x v → RelK g F ρ a b → P a b → P ((k, x) :: a) ((k, v) :: b)) : ∀ {a : List (Key × IV)} {b : List (Key × V)}, RelK g F ρ a b → P a b
  | [], b, r => by
    have := r.1
    cases b with
    | nil => exact h0
    | cons p b => simp at this
  | (k, x) :: a, b, r => by
    obtain ⟨e, rl⟩ := r
    cases b with
    | nil => simp at e
    | cons p b =>
      obtain ⟨k2, v⟩ := p
      simp only [List.map_cons, List.cons.injEq] at e
      obtain ⟨rfl, e⟩ := e
      simp only [List.map_cons, RelL] at rl
      obtain ⟨v', r', e2, r1, r2⟩ := rl
      cases e2
      exact h1 _ _ _ _ _ r1 ⟨e, r2⟩ (RelK.ind h0 h1 ⟨e, r2⟩)
theorem RelK.app {a c : List (Key × IV)} {b d : List (Key × V)} (r : RelK g F ρ a b) (r' : RelK g F ρ c d) : RelK g F ρ (a ++ c) (b ++ d) := by
  refine RelK.ind (P := fun a b => RelK g F ρ (a ++ c) (b ++ d)) r' (fun k x v a b r1 _ ih => ?_) r
  exact RelK.cons r1 ih
theorem RelK.any {a : List (Key × IV)} {b : List (Key × V)} (k : Key) (r : RelK g F ρ a b) : (a.any fun kv => decide (kv.1 = k)) = b.any fun kv => decide (kv.1 = k) := by
  refine RelK.ind (P := fun a b => (a.any fun kv => decide (kv.1 = k)) = b.any fun kv => decide (kv.1 = k)) rfl (fun k2 x v a b r1 _ ih => ?_) r
  rw [List.any_cons, List.any_cons, ih]
theorem RelK.put {a : List (Key × IV)} {b : List (Key × V)} {k : Key} {x : IV} {v : V} (r : RelK g F ρ a b) (rx : Rel g F ρ x v) : RelK g F ρ (putG a k x) (putK b k v) := by
  unfold putG putK
  rw [r.any k]
  split
  · refine RelK.ind (P := fun a b => RelK g F ρ (a.map fun kv => if kv.1 = k then (kv.1, x) else kv) (b.map fun kv => if kv.1 = k then (kv.1, v) else kv)) .nil (fun k2 y w a b r1 _ ih => ?_) r
    rw [List.map_cons, List.map_cons]
    by_cases e : k2 = k
    · rw [if_pos e, if_pos e]
      exact .cons rx ih
    · rw [if_neg e, if_neg e]
      exact .cons r1 ih
  · exact r.app (.cons rx .nil)
theorem RelK.merge {a : List (Key × IV)} {b : List (Key × V)} (r : RelK g F ρ a b) : ∀ {c : List (Key × IV)} {d : List (Key × V)}, RelK g F ρ c d → RelK g F ρ (mergeG c a) (mergeK d b) := by
  refine RelK.ind (P := fun a b => ∀ {c d}, RelK g F ρ c d → RelK g F ρ (mergeG c a) (mergeK d b)) (fun h => h) (fun k x v a b r1 _ ih c d h => ?_) r
  exact ih (h.put r1)
theorem RelK.val {a : List (Key × IV)} {b : List (Key × V)} {k : Key} (r : RelK g F ρ a b) : (∃ x v, valG a k = some x ∧ valV b k = some v ∧ Rel g F ρ x v) ∨ (valG a k = none ∧ valV b k = none) := by
  refine RelK.ind (P := fun a b => (∃ x v, valG a k = some x ∧ valV b k = some v ∧ Rel g F ρ x v) ∨ (valG a k = none ∧ valV b k = none)) (.inr ⟨rfl, rfl⟩) (fun k2 x v a b r1 _ ih => ?_) r
  by_cases e : k2 = k
  · left
    exact ⟨x, v, by simp [valG, e], by simp [valV, e], r1⟩
  · rcases ih with ⟨y, w, h1, h2, h3⟩ | ⟨h1, h2⟩
    · left
      refine ⟨y, w, ?_, ?_, h3⟩
      · rw [← h1]; simp [valG, e]
      · rw [← h2]; simp [valV, e]
    · right
      refine ⟨?_, ?_⟩
      · rw [← h1]; simp [valG, e]
      · rw [← h2]; simp [valV, e]
theorem keyI_rel {x : IV} {v : V} {k : Key} (r : Rel g F ρ x v) (h : keyI x = some k) : v = kV k := by
  cases x with
  | int i => cases h; rw [relInt r]; rfl
  | str s => cases h; rw [relStr r]; rfl
  | _ => cases h
theorem zip_maps {α β : Type} : ∀ l : List (α × β), (l.map (·.1)).zip (l.map (·.2)) = l
  | [] => rfl
  | p :: l => by rw [List.map_cons, List.map_cons, List.zip_cons_cons, zip_maps l]
theorem dct_rel {a : Addr} {kvs : List (Key × IV)} {ws : List (Key × V)} (h : ∃ o, F a = some (.frz o (.dK ws))) (r : RelK g F ρ kvs ws) : Rel g F ρ (dctI kvs) (.ref a) := by
  unfold dctI
  simp only [Rel]
  refine ⟨a, ws.map (·.2), rfl, by rw [List.length_map, List.length_map]; have := congrArg List.length r.1; simpa using this, ?_, r.2⟩
  unfold DctR
  rw [r.1, zip_maps]
  exact h
theorem rel_dct {ks : List Key} {xs : List IV} {v : V} (r : Rel g F ρ (.dct ks xs) v) : ∃ a ws o, v = .ref a ∧ F a = some (.frz o (.dK ws)) ∧ RelK g F ρ (ks.zip xs) ws := by
  simp only [Rel] at r
  obtain ⟨a, vs, rfl, hl, ⟨fo, h1⟩, h2⟩ := r
  have e := h2.len
  refine ⟨a, ks.zip vs, fo, rfl, h1, ?_, ?_⟩
  · rw [List.map_fst_zip (by omega), List.map_fst_zip (by omega)]
  · rw [List.map_snd_zip (by omega), List.map_snd_zip (by omega)]
    exact h2
end
abbrev MPs := List (M IV × M IV)
def mPrs : MPs → M (List (IV × IV))
  | [] => M.pure []
  | (a, b) :: r => a.bind fun x => b.bind fun y => (mPrs r).bind fun ps => M.pure ((x, y) :: ps)
def eDis (ps : MPs) : M IV := (mPrs ps).bind fun ps => M.opt (match prsI ps with
  | some kvs => if kvs.length ≤ 15 then some (dctI (mergeG [] kvs)) else none
  | none => none)
def JPs (X : Cx) (n : Nat) (W : WX) (pos : Pos) (ks : List (Option Expr)) (vs : List Expr) (ps : MPs) : Prop := PPs X pos ks vs (ps.map fun p => (tG (gx X) n W (Rel (gx X)) p.1, tG (gx X) n W (Rel (gx X)) p.2))
def RPs (g : Gx) : RR (List (IV × IV)) (List (V × V)) := fun F ρ a b => RelL g F ρ (a.map (·.1)) (b.map (·.1)) ∧ RelL g F ρ (a.map (·.2)) (b.map (·.2))
section
variable {X : Cx} {n : Nat} {W : WX} {a b e o f : Expr} {ks : List (Option Expr)} {vs : List Expr} {ma mb mo mf m : M IV} {ps : MPs} {pos : Pos}
theorem jps_nil : JPs X n W pos [] [] [] := pps_nil
theorem jps_cons (ha : JE X n W a ma) (hb : JE X n W b mb) (hr : JPs X n W pos ks vs ps) : JPs X n W pos (some a :: ks) (b :: vs) ((ma, mb) :: ps) := pps_cons ha hb hr
theorem prs_run {g : Gx} {σ : St} : ∀ (ps : MPs) {H : Hp} {Q : List (V × V) → Hp → Prop}, tG g n W (RPs g) (mPrs ps) σ H Q → tPairs (ps.map fun p => (tG g n W (Rel g) p.1, tG g n W (Rel g) p.2)) σ H Q
  | [], H, Q, h => by
    obtain ⟨F, ρ, cs, σi, hs, hl, hp⟩ := h
    exact hp F ρ H [] StpU.refl hs ⟨.nil, .nil⟩
  | (a, b) :: r, H, Q, h => by
    obtain ⟨F, ρ, cs, σi, hs, hl, hp⟩ := h
    refine go hs hl hp fun x H1 F1 ρ1 cs1 xi st1 hs1 hl1 r1 hp1 => ?_
    refine go hs1 hl1 hp1 fun y H2 F2 ρ2 cs2 yi st2 hs2 hl2 r2 hp2 => ?_
    refine prs_run r ?_
    refine go hs2 hl2 hp2 fun qs H3 F3 ρ3 cs3 qi st3 hs3 hl3 r3 hp3 => ?_
    exact hp3 F3 ρ3 H3 _ StpU.refl hs3 ⟨.cons ((r1.stp st2).stp st3) r3.1, .cons (r2.stp st3) r3.2⟩
theorem prsI_rel {g : Gx} {F : Hp} {ρ : List Addr} : ∀ {qi : List (IV × IV)} {qs : List (V × V)} {kvs : List (Key × IV)}, RPs g F ρ qi qs → prsI qi = some kvs → ∃ ws : List (Key × V), qs = ws.map (fun kv => (kV kv.1, kv.2)) ∧ RelK g F ρ kvs ws
  | [], qs, kvs, r, h => by
    cases h
    have := r.1.len
    cases qs with
    | nil => exact ⟨[], rfl, .nil⟩
    | cons p q => simp at this
  | (k, x) :: qi, qs, kvs, r, h => by
    simp only [prsI] at h
    split at h
    · rename_i k' r' e1 e2
      cases h
      cases qs with
      | nil => have := r.1.len; simp at this
      | cons p q =>
        obtain ⟨kv, v⟩ := p
        obtain ⟨r1, r2⟩ := r
        simp only [List.map_cons, RelL] at r1 r2
        obtain ⟨_, _, e3, q1, q2⟩ := r1
        obtain ⟨_, _, e4, q3, q4⟩ := r2
        cases e3
        cases e4
        obtain ⟨ws, rfl, rk⟩ := prsI_rel (qi := qi) ⟨q2, q4⟩ e2
        have := keyI_rel q1 e1
        subst this
        exact ⟨(k', v) :: ws, rfl, .cons q3 rk⟩
    · cases h
/-- what e made stands still from now on, if wished -/
theorem pe_frzd {t : TE} (h : PE X e t) : PE X e (fun σ H Q => t σ H fun v H1 => Q v H1 ∨ ∃ d u, H1 d = some u ∧ Mut (some u) ∧ ∀ od, Q v (upd H1 d (.frz od u))) := by
  refine ⟨fun pins s σ H Q I q => thn (h.run pins s σ H _ I q) fun u s1 ⟨v, H1, I1, r, q1⟩ => ?_⟩
  rcases q1 with q1 | ⟨d, o, h1, mu, q1⟩
  · exact ⟨v, H1, I1, r, q1⟩
  · obtain ⟨od, I2⟩ := I1.lock h1 mu
    exact ⟨v, _, I2, r, q1 od⟩
theorem je_dis (h : JPs X n W pos ks vs ps) (hall : ks.all (·.isSome) = true := by rfl) (hl : ks.length = vs.length := by rfl) (h0 : ks ≠ [] := by simp) (h15 : ks.length ≤ 15 := by decide) : JE X n W (.Dict ks vs pos) (eDis ps) := by
  refine pe_imp (pe_frzd (pe_disp h hall hl h0 h15)) fun σ H Q q => ?_
  obtain ⟨F, ρ, cs, σi, hs, hl, hp⟩ := q
  intro p hp0
  obtain ⟨hs1, st1, f1, n1⟩ := hs.lay (o := .dK []) hp0
  refine prs_run ps ?_
  refine ⟨F, ρ, cs, σi, hs1, hl.stp st1, ?_⟩
  have hp1 : Pst (gx X) W σ (Rel (gx X)) F ρ H ((mPrs ps n σi cs).then fun qs cs' => M.opt (match prsI qs with
    | some kvs => if kvs.length ≤ 15 then some (dctI (mergeG [] kvs)) else none
    | none => none) n σi cs') Q := hp
  cases e : mPrs ps n σi cs with
  | stuck => rw [e] at hp1; exact hp1.elim
  | ex y cs' =>
    rw [e] at hp1
    exact fun F' ρ' H' cls d st sm r => hp1 F' ρ' H' cls d (st1.tr st) sm r
  | ok qi cs2 =>
    rw [e] at hp1
    intro F2 ρ2 H2 qs st2 hs2 r2
    obtain ⟨z, hz, q⟩ := pst_opt (n := n) (σi := σi) (o := match prsI qi with
      | some kvs => if kvs.length ≤ 15 then some (dctI (mergeG [] kvs)) else none
      | none => none) hp1
    have dk : H2 p = some (.dK []) ∧ F2 p = none ∧ p ∉ ρ2 := by
      have h2 := st2.fr p _ upd_same (fun ps z => by cases z) n1 (fun z => z)
      refine ⟨h2, ?_, fun z => ?_⟩
      · cases q : F2 p with
        | none => rfl
        | some o =>
          rcases st2.fn p (by rw [q]; intro z; cases z) f1 with z | z | z
          · rw [upd_same] at z; cases z
          · exact z.elim
          · exact absurd z n1
      · rcases st2.rn p z n1 with q | q
        · rw [upd_same] at q; cases q
        · exact q
    split at hz
    · rename_i kvs hk
      split at hz
      · rename_i h15
        cases hz
        obtain ⟨ws, rfl, rk⟩ := prsI_rel r2 hk
        refine ⟨dk.1, ws, rfl, by have := congrArg List.length rk.1; simp at this; omega, .inr ⟨p, _, upd_same, True.intro, fun od => ?_⟩⟩
        rw [upd_upd]
        have t12 := st1.tr st2
        have fm : ∀ b u, F2 b = some u → upd F2 p (.frz od (.dK (mergeK [] ws))) b = some u := fun b u h => upd_none dk.2.1 h
        refine q (upd F2 p (.frz od (.dK (mergeK [] ws)))) ρ2 (upd H2 p (.frz od (.dK (mergeK [] ws)))) _ ⟨fun a o h => fm a o (t12.fz a o h), fun a h h' => ?_, t12.rp, t12.rn, fun a o h nt hr hu => ?_, fun a h => ?_⟩ ⟨fun b u h => ?_, hs2.len, hs2.nd, fun b hb => ?_, fun n c b e1 e2 e3 => by rw [upd_ne (fun z => dk.2.2 (by rw [← z]; exact List.mem_of_getElem? e2))]; exact hs2.lv n c b e1 e2 e3, fun n c b e1 e2 => ?_, tabs_upd hs2.tb (by rw [dk.1]; exact NoX.dK), fun b hb => by rw [upd_ne (fun z => dk.2.2 (by rw [← z]; exact hb))]; exact hs2.nx b hb, ft_upd hs2.ft (fun _ z => by cases z)⟩ ?_
        · by_cases z : a = p
          · left; rw [z]; exact hp0
          · rw [upd_ne z] at h
            exact t12.fn a h h'
        · rw [upd_ne (fun z => by rw [z, hp0] at h; cases h)]
          exact t12.fr a o h nt hr hu
        · by_cases z : a = p
          · rw [z, upd_same]; intro y; cases y
          · rw [upd_ne z]; exact t12.dm a h
        · by_cases z : b = p
          · subst z; rw [upd_same] at h ⊢; exact h
          · rw [upd_ne z] at h ⊢; exact hs2.fz b u h
        · rw [upd_ne (fun z => dk.2.2 (by rw [← z]; exact hb))]
          exact hs2.av b hb
        · rw [upd_ne (fun z => dk.2.2 (by rw [← z]; exact List.mem_of_getElem? e2))]
          exact (hs2.ok n c b e1 e2).mono fm ⟨[], by simp⟩
        · refine dct_rel ⟨od, upd_same⟩ ?_
          have rk2 : RelK (gx X) (upd F2 p (.frz od (.dK (mergeK [] ws)))) ρ2 kvs ws := ⟨rk.1, rk.2.mono fm ⟨[], by simp⟩⟩
          exact rk2.merge .nil
      · cases hz
    · cases hz
/-- {} -/
theorem je_dis0 : JE X n W (.Dict [] [] pos) (M.pure (.dct [] [])) := by
  refine pe_imp (pe_frzd pe_dnewK) fun σ H Q q => ?_
  obtain ⟨F, ρ, cs, σi, hs, hl, hp⟩ := q
  intro p hp0
  refine .inr ⟨p, _, upd_same, True.intro, fun od => ?_⟩
  rw [upd_upd]
  obtain ⟨hs', st⟩ := hs.new (o := .frz od (.dK [])) hp0
  exact hp _ ρ _ _ st hs' (dct_rel (kvs := []) ⟨od, upd_same⟩ .nil)
def dgetI (x y : IV) : Option (Option IV) := match x with
  | .dct ks xs => (keyI y).map fun k => valG (ks.zip xs) k
  | _ => none
def isDct : IV → Bool
  | .dct _ _ => true
  | _ => false
def eGet1 (mo m : M IV) : M IV := mo.bind fun x => if isDct x = true then m.bind fun y => M.opt ((dgetI x y).map fun r => r.getD .non) else fun _ _ _ => .stuck
def eGet2 (mo m mf : M IV) : M IV := mo.bind fun x => if isDct x = true then m.bind fun y => mf.bind fun z => M.opt ((dgetI x y).map fun r => r.getD z) else fun _ _ _ => .stuck
theorem dget_rel {g : Gx} {F : Hp} {ρ : List Addr} {cs : List Cell} {H : Hp} {a : Addr} {ws : List (Key × V)} {ks : List Key} {xs : List IV} {y : IV} {v : V} {r : Option IV} (hs : Sim g F ρ cs H) {fo : Obj} (h : F a = some (.frz fo (.dK ws))) (rk : RelK g F ρ (ks.zip xs) ws) (ry : Rel g F ρ y v) (e : dgetI (.dct ks xs) y = some r) :
    ∃ o, DGet H a v o ∧ ((∃ x w, r = some x ∧ o = some w ∧ Rel g F ρ x w) ∨ (r = none ∧ o = none)) := by
  obtain ⟨k, e1, rfl⟩ := Option.map_eq_some_iff.mp e
  have := keyI_rel ry e1
  subst this
  refine ⟨valV ws k, .inl ⟨ws, k, .inr ⟨fo, hs.fz _ _ h⟩, rfl, rfl⟩, ?_⟩
  rcases rk.val (k := k) with ⟨x, w, h1, h2, h3⟩ | ⟨h1, h2⟩
  · exact .inl ⟨x, w, h1, h2, h3⟩
  · exact .inr ⟨h1, h2⟩
theorem je_get1 {ap cp : Pos} (hu : X.A.units + 1 < cLine) (ho : JE X n W o mo) (he : JE X n W e m) (m1 : M1 X o "get" ap e cp := by exact ⟨rfl, rfl, rfl, rfl⟩) : JE X n W (.Call (.Attribute o "get" ap) [e] [] cp) (eGet1 mo m) := by
  refine pe_imp (pe_dget1 hu ho he m1) fun σ H Q q => ?_
  obtain ⟨F, ρ, cs, σi, hs, hl, hp⟩ := q
  refine go hs hl hp fun x H1 F1 ρ1 cs1 xi st1 hs1 hl1 r1 hp1 => ?_
  cases xi with
  | dct ks xs =>
    obtain ⟨a, ws, fo, rfl, h1, rk⟩ := rel_dct r1
    replace hp1 : Pst (gx X) W σ (Rel (gx X)) F1 ρ1 H1 ((m n σi cs1).then fun y cs2 => M.opt ((dgetI (.dct ks xs) y).map fun r => r.getD .non) n σi cs2) Q := hp1
    refine ⟨a, rfl, .inl ⟨ws, .inr ⟨fo, hs1.fz _ _ h1⟩⟩, ?_⟩
    refine go hs1 hl1 hp1 fun y H2 F2 ρ2 cs2 yi st2 hs2 hl2 r2 hp2 => ?_
    obtain ⟨z, hz, q⟩ := pst_opt hp2
    obtain ⟨r, e, rfl⟩ := Option.map_eq_some_iff.mp hz
    obtain ⟨o, d, k⟩ := dget_rel hs2 (st2.fz _ _ h1) (rk.stp st2) r2 e
    refine ⟨o, d, ?_⟩
    rcases k with ⟨x, w, rfl, rfl, rx⟩ | ⟨rfl, rfl⟩
    · exact q F2 ρ2 H2 _ StpU.refl hs2 rx
    · exact q F2 ρ2 H2 _ StpU.refl hs2 (by simp only [Option.getD, Rel])
  | _ => exact hp1.elim
theorem je_get2 {ap cp : Pos} (hu : X.A.units + 1 < cLine) (ho : JE X n W o mo) (he : JE X n W e m) (hf : JE X n W f mf) (m2 : M2 X o "get" ap e f cp := by exact ⟨rfl, rfl, rfl, rfl⟩) : JE X n W (.Call (.Attribute o "get" ap) [e, f] [] cp) (eGet2 mo m mf) := by
  refine pe_imp (pe_dget2 hu ho he hf m2) fun σ H Q q => ?_
  obtain ⟨F, ρ, cs, σi, hs, hl, hp⟩ := q
  refine go hs hl hp fun x H1 F1 ρ1 cs1 xi st1 hs1 hl1 r1 hp1 => ?_
  cases xi with
  | dct ks xs =>
    obtain ⟨a, ws, fo, rfl, h1, rk⟩ := rel_dct r1
    replace hp1 : Pst (gx X) W σ (Rel (gx X)) F1 ρ1 H1 ((m n σi cs1).then fun y cs2 => (mf n σi cs2).then fun z cs3 => M.opt ((dgetI (.dct ks xs) y).map fun r => r.getD z) n σi cs3) Q := hp1
    refine ⟨a, rfl, .inl ⟨ws, .inr ⟨fo, hs1.fz _ _ h1⟩⟩, ?_⟩
    refine go hs1 hl1 hp1 fun y H2 F2 ρ2 cs2 yi st2 hs2 hl2 r2 hp2 => ?_
    refine go hs2 hl2 hp2 fun zv H3 F3 ρ3 cs3 zi st3 hs3 hl3 r3 hp3 => ?_
    obtain ⟨z, hz, q⟩ := pst_opt hp3
    obtain ⟨r, e, rfl⟩ := Option.map_eq_some_iff.mp hz
    obtain ⟨o, d, k⟩ := dget_rel hs3 (st3.fz _ _ (st2.fz _ _ h1)) ((rk.stp st2).stp st3) (r2.stp st3) e
    refine ⟨o, d, ?_⟩
    rcases k with ⟨x, w, rfl, rfl, rx⟩ | ⟨rfl, rfl⟩
    · exact q F3 ρ3 H3 _ StpU.refl hs3 rx
    · exact q F3 ρ3 H3 _ StpU.refl hs3 r3
  | _ => exact hp1.elim
end
end SL

set_option Elab.async false
set_option linter.all false
set_option autoImplicit false
set_option maxRecDepth 100000
set_option maxHeartbeats 4000000
/-! SLMore: turned round; written dicts; comprehensions stored. -/
namespace SL
open PySem PySem.Spec L2
open PyProof.Rows hiding St
section
variable {prog : Program} {w : World} {A : Around} {E : Value → Shared → Prop} {s : Shared}
theorem adjRev (n : Nat) : Builtin.Slice.sliceAdjust none none (-1) (n : Int) = ((n : Int) - 1, -1) := by
  unfold Builtin.Slice.sliceAdjust
  simp
theorem plcRev (n : Nat) : Builtin.Slice.slicePlaces ((n : Int) - 1) (-1) (-1) = n := by
  unfold Builtin.Slice.slicePlaces
  have h1 : ¬ ((-1 : Int) > 0) := by omega
  rw [if_neg h1]
  by_cases h : ((n : Int) - 1) > -1
  · rw [if_pos h]
    have e : ((n : Int) - 1 - -1 - 1) / (- -1) = (n : Int) - 1 := by
      rw [show (- -1 : Int) = 1 from rfl, Int.ediv_one]
      omega
    rw [e]
    omega
  · rw [if_neg h]
    have : n = 0 := by omega
    rw [this]
    rfl
theorem pickRev (xs : Array Value) : ((List.range xs.size).filterMap fun (k : Nat) => xs[((xs.size : Int) - 1 + (k : Int) * -1).toNat]?).toArray = xs.toList.reverse.toArray := by
  congr 1
  apply List.ext_getElem?
  intro i
  have e : (List.range xs.size).filterMap (fun (k : Nat) => xs[((xs.size : Int) - 1 + (k : Int) * -1).toNat]?) = (List.range xs.size).map fun k => xs.toList.getD (xs.size - 1 - k) .none := by
    have : ∀ l : List Nat, (∀ k ∈ l, k < xs.size) → l.filterMap (fun (k : Nat) => xs[((xs.size : Int) - 1 + (k : Int) * -1).toNat]?) = l.map fun k => xs.toList.getD (xs.size - 1 - k) .none := by
      intro l
      induction l with
      | nil => intro _; rfl
      | cons k l ih =>
        intro h
        have hk := h k List.mem_cons_self
        have hi : ((xs.size : Int) - 1 + (k : Int) * -1).toNat = xs.size - 1 - k := by omega
        have hlt : xs.size - 1 - k < xs.size := by omega
        rw [List.filterMap_cons, hi, Array.getElem?_eq_getElem hlt, List.map_cons, ih fun j hj => h j (List.mem_cons_of_mem _ hj)]
        simp [List.getD, hlt]
    exact this _ fun k hk => List.mem_range.mp hk
  rw [e, List.getElem?_map]
  by_cases hi : i < xs.size
  · rw [List.getElem?_range hi, List.getElem?_reverse (by simpa using hi)]
    simp [List.getD, show xs.size - 1 - i < xs.size by omega]
  · rw [List.getElem?_eq_none (by simpa using hi), List.getElem?_eq_none (by simpa using hi)]
    rfl
theorem item_tup_rev {t sl : Addr} {items : Array Value} {u : Tok} {Q : Value → Shared → Prop} (ht : IsTup s.heap t items) (hs : s.heap.IsSliceOf sl .none .none (.int (-1) u))
    (h : Q (.ref s.heap.objs.size) { s with heap := s.heap.push { cls := .type "tuple", data := .seq items.toList.reverse.toArray } }) (hsz : items.size ≤ sizeLine) : wpAny (model prog w) A (getItem (.ref t) (.ref sl)) Q E s := by
  have hok : sizeOk (.seq items.toList.reverse.toArray) := by
    show items.toList.reverse.toArray.size ≤ sizeLine
    rw [List.size_toArray, List.length_reverse, Array.length_toList]
    exact hsz
  obtain ⟨os, hos, hcs, hds⟩ := id hs
  have hTs : s.TypeIs (.ref sl) "slice" := ⟨os, hos, hcs⟩
  unfold getItem
  try with_reducible refine wpAny_holding ?_
  first | refine wpAny_bind (wpAny_pure ?_) | skip
  refine wpAny_bind (wpAny_sequenceKey ht.typeIs (by decide) ?_)
  refine wpAny_bind (wpAny_callSpecial?_slot (name := Str.ofString "__getitem__") ht.typeIs PyProof.Rows.slot_tuple_getitem
    (wpAny_call_entry PyProof.Rows.slot_tuple_getitem ht.typeIs entry_tuple_getitem ?_ (args_tuple_getitem _ _)))
  show wpAny _ _ (Builtin.Tuple.tupleItemsOf (.ref t) >>= _) _ _ s
  refine wpAny_bind (tupleItemsOf_ ht ?_)
  refine wpAny_bind (wpAny_typeOf hTs ?_)
  rw [if_pos (by decide)]
  unfold Builtin.Slice.sliceApplied Builtin.Slice.sliceFields
  refine wpAny_bind (wpAny_bind (wpAny_bind (wpAny_field hos hds (x := .none) rfl (wpAny_bind (wpAny_field hos hds (x := .none) rfl (wpAny_bind (wpAny_field hos hds (x := .int (-1) u) rfl (wpAny_pure ?_))))))))
  refine wpAny_bind (slicePart_int ?_)
  show wpAny _ _ (if ((-1 : Int) == 0) = true then _ else _) _ _ s
  rw [if_neg (by decide)]
  refine wpAny_bind (slicePart_none (wpAny_bind (slicePart_none (wpAny_bind (wpAny_pure ?_)))))
  show wpAny _ _ (match Builtin.Slice.sliceAdjust none none (-1) (items.size : Int) with | (lo, hi) => pure (lo, (-1 : Int), Builtin.Slice.slicePlaces lo hi (-1))) _ _ s
  rw [adjRev]
  show wpAny _ _ (pure ((items.size : Int) - 1, (-1 : Int), Builtin.Slice.slicePlaces ((items.size : Int) - 1) (-1) (-1))) _ _ s
  rw [plcRev]
  refine wpAny_pure ?_
  show wpAny _ _ (if ((((items.size : Int) - 1) == 0 && (-1 : Int) == 1 && items.size == items.size) = true) then _ else _) _ _ s
  rw [if_neg (by simp), pickRev]
  first
    | exact wpAny_bind (m := Builtin.Tuple.tupleExact _) (wpAny_newObj_type (wpAny_pure ⟨_, rfl, wpAny_pure h⟩) hok)
    | exact wpAny_bind (m := Builtin.Tuple.tupleExact _) (wpAny_newObj_type (wpAny_bind (wpAny_pure (wpAny_pure ⟨_, rfl, wpAny_pure h⟩))) hok)
    | exact wpAny_bind (wpAny_bind (m := Builtin.Tuple.tupleExact _) (wpAny_newObj_type (wpAny_pure (wpAny_pure ⟨_, rfl, wpAny_pure h⟩)) hok))
    | exact wpAny_bind (wpAny_bind (m := Builtin.Tuple.tupleExact _) (wpAny_newObj_type (wpAny_pure ⟨_, rfl, wpAny_pure h⟩) hok))
end
def revI : IV → Option IV
  | .lst xs => some (.lst xs.reverse)
  | .rol xs => some (.lst xs.reverse)
  | .tup xs => some (.tup xs.reverse)
  | _ => none
def eRev (m : M IV) : M IV := m.bind fun x => M.opt (revI x)
section
variable {X : Cx} {n : Nat} {W : WX} {e : Expr} {m : M IV} {pos : Pos}
/-- t[::-1], t a tuple -/
def tRevT (K : PySem.W.Frag) (te : TE) : TE := fun σ H Q => te σ H fun x H1 => ∃ a xs, x = .ref a ∧ SqT K H1 a xs ∧ ∀ p, H1 p = none → Q (.ref p) (upd H1 p (.tup xs.reverse))
theorem pe_revT {te : TE} {k : Nat} {p1 p2 p3 : Pos} (he : PE X e te) : PE X (.Subscript e (.Slice none none (some (.UnaryOp .USub (.Constant (.int 1) k p1) p2)) p3) pos) (tRevT X.K te) := by
  refine ⟨fun pins s σ H Q I h => ?_⟩
  refine Subscript_ (thn (he.run pins s σ H _ I h) fun v s1 ⟨x, H1, I1, r1, a, xs, ex, hx, q⟩ => ?_)
  subst ex
  cases r1
  have hst : PO X (some (.UnaryOp .USub (.Constant (.int 1) k p1) p2)) (tPart (tUn (rU fun i => .int (-i)) (tC (.int 1)))) := po_some (pe_un un_neg pe_int)
  refine wpAny_Slice (thn (po_none.run pins s1 σ H1 (fun o H2 => o = none ∧ H2 = H1) I1 ⟨rfl, rfl⟩) fun vl s2 ⟨l, H2, I2, pl, el, e2⟩ => ?_)
  subst el e2
  refine thn (po_none.run pins s2 σ H2 (fun o H3 => o = none ∧ H3 = H2) I2 ⟨rfl, rfl⟩) fun vu s3 ⟨u, H3, I3, pu, eu, e3⟩ => ?_
  subst eu e3
  refine thn (hst.run pins s3 σ H3 (fun o H4 => o = some (-1) ∧ H4 = H3) I3 ⟨1, rfl, -1, rfl, rfl, rfl⟩) fun vs s4 ⟨o, H4, I4, ps, eo, e4⟩ => ?_
  subst eo e4
  have I5 : Inv X pins σ H4 { s4 with heap := s4.heap.push { cls := .type "slice", data := .fields #[vl, vu, vs] } } := I4.kept (t' := s4.toks) fun b ob q => Heap.get?_push_of_some _ q
  obtain ⟨its, r, ht, hz⟩ := I5.tuple hx
  cases pl
  cases pu
  cases ps with
  | int i t =>
    refine tail_any (ops := [.ref a, .ref s4.heap.objs.size]) ht.typeIs (PyProof.Rows.slot_tuple_getitem.lookup) ?_ (by with_unfolding_all rfl)
    refine item_tup_rev ht (Heap.IsSliceOf.new _ _ _ _) ?_ (by rw [List.size_toArray, ← r.length]; exact hz)
    refine ⟨.ref _, _, I5.laid (t' := s4.toks) (o := .tup xs.reverse) (fun b ob q => Heap.get?_push_of_some _ q) (Nat.le_refl _) ?_, rfl, q _ (I5.hok.fresh (Nat.le_refl _))⟩
    exact ⟨by rw [List.length_reverse]; exact hz, _, r.reverse, _, Heap.get?_push_size _ rfl, rfl, _, rfl⟩
theorem je_rev {k : Nat} {p1 p2 p3 : Pos} (he : JE X n W e m) : JE X n W (.Subscript e (.Slice none none (some (.UnaryOp .USub (.Constant (.int 1) k p1) p2)) p3) pos) (eRev m) := by
  refine ⟨fun pins s σ H Q I q => ?_⟩
  obtain ⟨F, ρ, cs, σi, hs, hl, hp⟩ := q
  have hp0 : Pst (gx X) W σ (Rel (gx X)) F ρ H ((m n σi cs).then fun x cs' => M.opt (revI x) n σi cs') Q := hp
  cases em : m n σi cs with
  | stuck => rw [em] at hp0; exact hp0.elim
  | ex ee cs' =>
    rw [em] at hp0
    exact (pe_revT he).run pins s σ H Q I ⟨F, ρ, cs, σi, hs, hl, by rw [em]; exact hp0⟩
  | ok x cs' =>
    rw [em] at hp0
    cases x with
    | lst xs =>
      refine (pe_revL he).run pins s σ H Q I ⟨F, ρ, cs, σi, hs, hl, ?_⟩
      rw [em]
      intro F' ρ' H' v st sm r
      simp only [Rel] at r
      obtain ⟨a, vs, rfl, h1, h2⟩ := r
      refine ⟨a, vs, rfl, .inl (.inl (sm.fz _ _ h1)), fun p hpn => ?_⟩
      obtain ⟨hs', st'⟩ := sm.new (o := .lst vs.reverse) hpn
      exact hp0 _ _ _ _ (st.tr st') hs' (by simp only [Rel]; exact ⟨p, _, rfl, upd_same, h2.reverse.stp st'⟩)
    | rol xs =>
      refine (pe_revL he).run pins s σ H Q I ⟨F, ρ, cs, σi, hs, hl, ?_⟩
      rw [em]
      intro F' ρ' H' v st sm r
      simp only [Rel] at r
      obtain ⟨a, vs, rfl, h1, h2⟩ := r
      refine ⟨a, vs, rfl, sqL_mono sm.fz h1, fun p hpn => ?_⟩
      obtain ⟨hs', st'⟩ := sm.new (o := .lst vs.reverse) hpn
      exact hp0 _ _ _ _ (st.tr st') hs' (by simp only [Rel]; exact ⟨p, _, rfl, upd_same, h2.reverse.stp st'⟩)
    | tup xs =>
      refine (pe_revT he).run pins s σ H Q I ⟨F, ρ, cs, σi, hs, hl, ?_⟩
      rw [em]
      intro F' ρ' H' v st sm r
      simp only [Rel] at r
      obtain ⟨a, vs, rfl, h1, h2⟩ := r
      refine ⟨a, vs, rfl, sqT_mono sm.fz h1, fun p hpn => ?_⟩
      obtain ⟨hs', st'⟩ := sm.new (o := .tup vs.reverse) hpn
      exact hp0 _ _ _ _ (st.tr st') hs' (by simp only [Rel]; exact ⟨p, _, rfl, .inl (.inl upd_same), h2.reverse.stp st'⟩)
    | _ => exact hp0.elim
def eNeg (m : M IV) : M IV := m.bind fun x => M.opt (match x with
  | .int i => some (.int (-i))
  | _ => none)
theorem je_neg {p : Pos} (he : JE X n W e m) : JE X n W (.UnaryOp .USub e p) (eNeg m) := by
  refine pe_imp (pe_un un_neg he) fun σ H Q q => ?_
  obtain ⟨F, ρ, cs, σi, hs, hl, hp⟩ := q
  refine go hs hl hp fun v H1 F1 ρ1 cs1 x st1 hs1 hl1 r1 hp1 => ?_
  obtain ⟨z, hz, q⟩ := pst_opt hp1
  split at hz
  · cases hz
    exact ⟨_, relInt r1, q F1 ρ1 H1 _ StpU.refl hs1 (by simp only [Rel])⟩
  · cases hz
/-! ### written dicts with text keys -/
def tabV (tab : List (Str × IV)) (z : Str) : Option IV := match tab with
  | [] => none
  | (k, x) :: r => if k = z then some x else tabV r z
/-- the dict at d, and what it holds -/
structure KTab (K : PySem.W.Frag) (w : World) (d : Addr) (tab : List (Str × IV)) : Prop where
  ex : ∃ es n, KDict K w d es n
  val : ∀ z, ∃ r, PySem.W.nsIn K d z = some r ∧ ((tabV tab z = none ∧ r = none) ∨ ∃ x u v, tabV tab z = some x ∧ r = some u ∧ RelV v u ∧ ∀ (g : Gx) F ρ, Rel g F ρ x v)
def eKget (tab : List (Str × IV)) (m : M IV) : M IV := m.bind fun y => M.opt (match y with
  | .str z => some ((tabV tab z).getD .non)
  | _ => none)
def valEq : Value → IV → Prop
  | u, .int i => ∃ t, u = .int i t
  | u, .str s => ∃ t, u = .str s t
  | u, .bl b => u = .bool b
  | u, .non => u = .none
  | _, _ => False
theorem valEq_rel {u : Value} {x : IV} (h : valEq u x) : ∃ v, RelV v u ∧ ∀ (g : Gx) F ρ, Rel g F ρ x v := by
  cases x with
  | int i => exact ⟨.int i, h, fun _ _ _ => by simp only [Rel]⟩
  | str i => exact ⟨.str i, h, fun _ _ _ => by simp only [Rel]⟩
  | bl b => exact ⟨.bl b, h, fun _ _ _ => by simp only [Rel]⟩
  | non => exact ⟨.non, h, fun _ _ _ => by simp only [Rel]⟩
  | _ => exact h.elim
/-- entry by entry -/
def tabEq : List DictEntry → List (Str × IV) → Prop
  | [], [] => True
  | e :: r, (k, x) :: t => (∃ tk, e.key = .str k tk) ∧ valEq e.val x ∧ tabEq r t
  | _, _ => False
theorem ktab_of {K : PySem.W.Frag} {w : World} {d : Addr} {es : List DictEntry} {nn : Nat} {tab : List (Str × IV)} (h1 : K.lookup d = some ⟨.type "dict", none, .dict es.toArray nn, #[]⟩) (h2 : PySem.W.KeysLit w.params es) (h3 : (d == sysModules) = false) (h4 : tabEq es tab) : KTab K w d tab := by
  refine ⟨⟨es.toArray, nn, h1, by simpa using h2, h3⟩, fun z => ?_⟩
  have hn : PySem.W.nsIn K d z = (match es.find? (·.key.isStr z) with
      | some e => some (some e.val)
      | none => if es.any (·.refKey) then none else some none) := by
    unfold PySem.W.nsIn
    rw [h1] <;> rfl
  have hr : ∀ (es : List DictEntry) (tab : List (Str × IV)), tabEq es tab → es.any (·.refKey) = false := by
    intro es
    induction es with
    | nil => intro _ _; rfl
    | cons e r ih =>
      intro tab h
      cases tab with
      | nil => exact h.elim
      | cons p t =>
        obtain ⟨⟨tk, h1⟩, h2, h3⟩ := h
        rw [List.any_cons, ih t h3]
        simp [DictEntry.refKey, h1]
  rw [hn]
  have key : ∀ (es : List DictEntry) (tab : List (Str × IV)), tabEq es tab → (tabV tab z = none ∧ es.find? (·.key.isStr z) = none) ∨ ∃ x e v, tabV tab z = some x ∧ es.find? (·.key.isStr z) = some e ∧ RelV v e.val ∧ ∀ (g : Gx) F ρ, Rel g F ρ x v := by
    intro es
    induction es with
    | nil =>
      intro tab h
      cases tab with
      | nil => exact .inl ⟨rfl, rfl⟩
      | cons p t => exact h.elim
    | cons e r ih =>
      intro tab h
      cases tab with
      | nil => exact h.elim
      | cons p t =>
        obtain ⟨k, x⟩ := p
        obtain ⟨⟨tk, h1⟩, h2, h3⟩ := h
        by_cases hk : k = z
        · right
          obtain ⟨v, rv, rr⟩ := valEq_rel h2
          refine ⟨x, e, v, by simp [tabV, hk], ?_, rv, rr⟩
          rw [List.find?_cons, h1]
          simp [Value.isStr, hk]
        · have e1 : (e.key.isStr z) = false := by rw [h1]; simp [Value.isStr, hk]
          rw [List.find?_cons, e1]
          have e2 : tabV ((k, x) :: t) z = tabV t z := by simp [tabV, hk]
          rw [e2]
          exact ih t h3
  rcases key es tab h4 with ⟨a, b⟩ | ⟨x, e, v, a, b, c, dd⟩
  · refine ⟨none, ?_, .inl ⟨a, rfl⟩⟩
    rw [b]
    simp [hr es tab h4]
  · refine ⟨some e.val, ?_, .inr ⟨x, _, v, a, rfl, c, dd⟩⟩
    rw [b]
theorem je_kget {x : Str} {d : Addr} {tab : List (Str × IV)} {ap cp np : Pos} (T : KTab X.K X.w d tab) (hm : X.mg x = some (.ref d)) (he : JE X n W e m) (m1 : M1 X (.Name x np) "get" ap e cp := by exact ⟨rfl, rfl, rfl, rfl⟩) (hg : Gl X x := by rfl) (hd : (x == ("__debug__" : Str)) = false := by decide) :
    JE X n W (.Call (.Attribute (.Name x np) "get" ap) [e] [] cp) (eKget tab m) := by
  obtain ⟨⟨es, nn, D⟩, val⟩ := T
  refine ⟨fun pins s σ H Q I h => ?_⟩
  refine wpAny_Call_method m1.base m1.few m1.line PySem.F.plainAttrs_dict PySem.F.slot_dict_get PySem.F.type_dict_get (thn ((pe_glob (v := .ref d) hg hm rfl hd).run pins s σ H (fun v H1 => v = .ref d ∧ H1 = H) I ⟨rfl, rfl⟩) fun u s1 ⟨y, H1, I1, rx, ey, eH⟩ => ?_)
  subst ey
  rw [eH] at I1
  obtain rfl : u = Value.ref d := rx
  refine ⟨kd_type D I1, fun b q => ?_, ?_⟩
  · cases q
    exact ⟨_, I1.kIn _ _ D.at_, rfl⟩
  rw [m1.trees]
  have h' : tG (gx X) n W (Rel (gx X)) m σ H fun y H2 => ∃ z x, y = .str z ∧ (tabV tab z).getD .non = x ∧ ∃ F ρ cs, Sim (gx X) F ρ cs H2 ∧ ∀ v, (∀ (g : Gx) F ρ, Rel g F ρ x v) → Q v H2 := by
    obtain ⟨F, ρ, cs, σi, hs, hl, hp⟩ := h
    refine go hs hl hp fun v H1 F1 ρ1 cs1 yi st1 hs1 hl1 r1 hp1 => ?_
    obtain ⟨z, hz, q⟩ := pst_opt hp1
    split at hz
    · rename_i z'
      cases hz
      exact ⟨z', _, relStr r1, rfl, F1, ρ1, cs1, hs1, fun v hv => q F1 ρ1 H1 v StpU.refl hs1 (hv _ _ _)⟩
    · cases hz
  refine Calls.callWith_builtin rfl (Calls.evalArgs_plain (Calls.spliced_cons (thn (he.run pins s1 σ H _ I1 h') fun iv s2 ⟨y, H2, I2, ry, z, xx, ez, ex, F2, ρ2, cs2, hs2, q⟩ => Calls.spliced_nil ?_)))
  subst ez
  obtain ⟨t, rfl⟩ := (show ∃ t, iv = Value.str z t from ry)
  have hm' := PySem.W.mapOf_K (prog := X.prog) (w := X.w) I2.kIn D.at_ D.lit
  obtain ⟨r, e1, e2⟩ := val z
  refine call_meetsIn PySem.F.slot_dict_get (kd_type D I2) PySem.F.entry_dict_get (PySem.F.args_dict_get_2 _ _) (meets_dict_get (strKind X.prog X.w) d (strKind_is X.prog X.w z t) D.low) ⟨_, hm', ?_⟩
  show EP X pins σ Q ((findBy Value.isStrOf es z).getD .none) _
  rw [PySem.W.find_K D.at_ e1]
  rcases e2 with ⟨a, rfl⟩ | ⟨x', u, v, a, rfl, rv, rr⟩
  · refine ⟨.non, H2, I2.tok _, rfl, q _ ?_⟩
    rw [← ex, a]
    intro g F ρ
    simp only [Option.getD, Rel]
  · refine ⟨v, H2, I2.tok _, rv, q _ ?_⟩
    rw [← ex, a]
    exact rr
end
end SL

set_option Elab.async false
set_option linter.all false
set_option autoImplicit false
set_option maxRecDepth 100000
/-! SLBoot: the built-in names. -/
namespace SL
open PySem PySem.Spec L2
open PyProof.Rows hiding St
theorem un1 {k : Nat} {A : Around} (r : Room k A) : A.units + 1 < cLine := by have := r.un; omega
theorem bt_len : bootBuiltins "len" = some (.builtin "len") := by first | rfl | decide +kernel
theorem bt_abs : bootBuiltins "abs" = some (.builtin "abs") := by first | rfl | decide +kernel
theorem bt_max : bootBuiltins "max" = some (.builtin "max") := by first | rfl | decide +kernel
theorem bt_min : bootBuiltins "min" = some (.builtin "min") := by first | rfl | decide +kernel
theorem bt_all : bootBuiltins "all" = some (.builtin "all") := by first | rfl | decide +kernel
theorem bt_any : bootBuiltins "any" = some (.builtin "any") := by first | rfl | decide +kernel
theorem bt_repr : bootBuiltins "repr" = some (.builtin "repr") := by first | rfl | decide +kernel
theorem bt_sorted : bootBuiltins "sorted" = some (.builtin "sorted") := by first | rfl | decide +kernel
theorem bt_sum : bootBuiltins "sum" = some (.builtin "sum") := by first | rfl | decide +kernel
theorem bt_isinstance : bootBuiltins "isinstance" = some (.builtin "isinstance") := by first | rfl | decide +kernel
theorem bt_issubclass : bootBuiltins "issubclass" = some (.builtin "issubclass") := by first | rfl | decide +kernel
theorem bt_getattr : bootBuiltins "getattr" = some (.builtin "getattr") := by first | rfl | decide +kernel
theorem bt_int : bootBuiltins "int" = some (.type "int") := by first | rfl | decide +kernel
theorem bt_bool : bootBuiltins "bool" = some (.type "bool") := by first | rfl | decide +kernel
theorem bt_str : bootBuiltins "str" = some (.type "str") := by first | rfl | decide +kernel
theorem bt_tuple : bootBuiltins "tuple" = some (.type "tuple") := by first | rfl | decide +kernel
theorem bt_list : bootBuiltins "list" = some (.type "list") := by first | rfl | decide +kernel
theorem bt_dict : bootBuiltins "dict" = some (.type "dict") := by first | rfl | decide +kernel
theorem bt_set : bootBuiltins "set" = some (.type "set") := by first | rfl | decide +kernel
theorem bt_type : bootBuiltins "type" = some (.type "type") := by first | rfl | decide +kernel
/-- a written tuple of flat values -/
def seqEq : List Value → List IV → Prop
  | [], [] => True
  | u :: us, x :: xs => valEq u x ∧ seqEq us xs
  | _, _ => False
theorem seqEq_rel : ∀ {us : List Value} {xs : List IV}, seqEq us xs → ∃ vs, Vals vs us ∧ ∀ (g : Gx) F ρ, RelL g F ρ xs vs
  | [], [], _ => ⟨[], .nil, fun _ _ _ => .nil⟩
  | u :: us, x :: xs, h => by
    obtain ⟨v, r, q⟩ := valEq_rel h.1
    obtain ⟨vs, rs, qs⟩ := seqEq_rel h.2
    exact ⟨v :: vs, .cons r rs, fun g F ρ => .cons (q g F ρ) (qs g F ρ)⟩
  | [], _ :: _, h => h.elim
  | _ :: _, [], h => h.elim
theorem seqEq_len : ∀ {us : List Value} {xs : List IV}, seqEq us xs → us.length = xs.length
  | [], [], _ => rfl
  | u :: us, x :: xs, h => by rw [List.length_cons, List.length_cons, seqEq_len h.2]
  | [], _ :: _, h => h.elim
  | _ :: _, [], h => h.elim
theorem ktup_of {K : PySem.W.Frag} {mg : Str → Option Value} {a : Addr} {dd : Option Addr} {us : List Value} {nn : Nat} {sl : Array (Option Value)} {xs : List IV} (h : K.lookup a = some ⟨.type "tuple", dd, .seq us.toArray nn, sl⟩) (e : seqEq us xs) (hz : xs.length ≤ lim) :
    ∃ vs, SqT K (fun _ => none) a vs ∧ RelL (gK K mg) (fun _ => none) [] xs vs := by
  obtain ⟨vs, r, q⟩ := seqEq_rel e
  exact ⟨vs, .inr ⟨_, us.toArray, nn, h, rfl, rfl, by rw [List.size_toArray, seqEq_len e]; exact lim_le hz, by simpa using r⟩, q _ _ _⟩
end SL

set_option Elab.async false
set_option linter.all false
set_option autoImplicit false
set_option maxRecDepth 100000
/-! SLSimp: how a mirror is worked out. -/
namespace SL
open PySem PySem.Spec L2
open PyProof.Rows hiding St
section
variable {α β : Type} {n : Nat} {σ : List SV} {cs cs' : List Cell} {a : α} {e : Exn}
set_option checkBinderAnnotations false in
def Res.th (r : Res α) [k : α → List Cell → Res β] : Res β := r.then k
set_option checkBinderAnnotations false in
def thS (r : Res α) (σ : List SV) [k : α → List Cell → SR] : SR := thenS r σ k
set_option checkBinderAnnotations false in
def SR.seq (r : SR) [k : List SV → List Cell → SR] : SR := match r with
  | .next σ cs => k σ cs
  | .ret x cs => .ret x cs
  | .brk σ cs => .brk σ cs
  | .cnt σ cs => .cnt σ cs
  | .ex e σ cs => .ex e σ cs
  | .stuck => .stuck
def SR.fin (r : SR) : Res IV := match r with
  | .next _ cs => .ok .non cs
  | .ret x cs => .ok x cs
  | .ex e _ cs => .ex e cs
  | _ => .stuck
@[simp] theorem then_ok {k : α → List Cell → Res β} : (Res.ok a cs).th (k := k) = k a cs := id rfl
@[simp] theorem then_ex {k : α → List Cell → Res β} : (Res.ex e cs : Res α).th (k := k) = .ex e cs := id rfl
@[simp] theorem then_stuck {k : α → List Cell → Res β} : (Res.stuck : Res α).th (k := k) = .stuck := id rfl
@[simp] theorem thenS_ok {k : α → List Cell → SR} : thS (Res.ok a cs) σ (k := k) = k a cs := id rfl
@[simp] theorem thenS_ex {k : α → List Cell → SR} : thS (Res.ex e cs : Res α) σ (k := k) = .ex e σ cs := id rfl
@[simp] theorem thenS_stuck {k : α → List Cell → SR} : thS (Res.stuck : Res α) σ (k := k) = .stuck := id rfl
@[simp] theorem seq_next {k : List SV → List Cell → SR} : (SR.next σ cs).seq (k := k) = k σ cs := id rfl
@[simp] theorem seq_ret {x : IV} {k : List SV → List Cell → SR} : (SR.ret x cs).seq (k := k) = .ret x cs := id rfl
@[simp] theorem seq_brk {k : List SV → List Cell → SR} : (SR.brk σ cs).seq (k := k) = .brk σ cs := id rfl
@[simp] theorem seq_cnt {k : List SV → List Cell → SR} : (SR.cnt σ cs).seq (k := k) = .cnt σ cs := id rfl
@[simp] theorem seq_ex {k : List SV → List Cell → SR} : (SR.ex e σ cs).seq (k := k) = .ex e σ cs := id rfl
@[simp] theorem seq_stuck {k : List SV → List Cell → SR} : SR.stuck.seq (k := k) = .stuck := id rfl
@[simp] theorem fin_next : (SR.next σ cs).fin = .ok .non cs := id rfl
@[simp] theorem fin_ret {x : IV} : (SR.ret x cs).fin = .ok x cs := id rfl
@[simp] theorem fin_ex : (SR.ex e σ cs).fin = .ex e cs := id rfl
@[simp] theorem fin_stuck : SR.stuck.fin = .stuck := id rfl
/-! expressions -/
@[simp] theorem ev_pure : (M.pure a : M α) n σ cs = .ok a cs := id rfl
@[simp] theorem ev_bind {m : M α} {k : α → M β} : M.bind m k n σ cs = (m n σ cs).th (k := fun a cs' => k a n σ cs') := id rfl
def optR (o : Option α) (cs : List Cell) : Res α := match o with
  | some a => .ok a cs
  | none => .stuck
@[simp] theorem optR_some : optR (some a) cs = .ok a cs := id rfl
@[simp] theorem optR_none : optR (none : Option α) cs = .stuck := id rfl
@[simp] theorem ev_opt {o : Option α} : (M.opt o : M α) n σ cs = optR o cs := by cases o <;> rfl
def getR (o : Option SV) (cs : List Cell) : Res IV := match o with
  | some (.v x) => .ok x cs
  | _ => .stuck
@[simp] theorem getR_v {x : IV} : getR (some (.v x)) cs = .ok x cs := id rfl
@[simp] theorem getR_un : getR (some .un) cs = .stuck := id rfl
@[simp] theorem getR_own {xs : List IV} : getR (some (.own xs)) cs = .stuck := id rfl
@[simp] theorem ev_v {i : Nat} : eV i n σ cs = getR σ[i]? cs := by
  unfold eV getR; rcases σ[i]? with _ | (_ | _ | _) <;> rfl
@[simp] theorem ev_e2 {f : IV → IV → Option IV} {ma mb : M IV} : e2 f ma mb n σ cs = (ma n σ cs).th (k := fun x cs1 => (mb n σ cs1).th (k := fun y cs2 => optR (f x y) cs2)) := by
  unfold e2; simp only [ev_bind, ev_opt]
@[simp] theorem ev_cells {f : List Cell → Option IV} : eCells f n σ cs = optR (f cs) cs := by
  unfold eCells optR; cases f cs <;> rfl
@[simp] theorem ev_e2c {f : List Cell → IV → IV → Option IV} {ma mb : M IV} : e2c f ma mb n σ cs = (ma n σ cs).th (k := fun x cs1 => (mb n σ cs1).th (k := fun y cs2 => optR (f cs2 x y) cs2)) := by
  unfold e2c; simp only [ev_bind, ev_cells]
@[simp] theorem ev_call {f : List Cell → List IV → Option IV} {m : M (List IV)} : eCall f m n σ cs = (m n σ cs).th (k := fun xs cs1 => optR (f cs1 xs) cs1) := by
  unfold eCall; simp only [ev_bind, ev_cells]
@[simp] theorem ev_mB {m : M IV} : mB m n σ cs = (m n σ cs).th (k := fun x cs1 => optR (isB x) cs1) := by
  unfold mB; simp only [ev_bind, ev_opt]
@[simp] theorem ev_mT {m : M IV} : mT m n σ cs = (m n σ cs).th (k := fun x cs1 => optR (truI x) cs1) := by
  unfold mT; simp only [ev_bind, ev_opt]
theorem ite_ap {c : Prop} [Decidable c] {m m' : M α} : (if c then m else m') n σ cs = if c then m n σ cs else m' n σ cs := by split <;> rfl
@[simp] theorem ev_and {x y : M Bool} : mAnd x y n σ cs = (x n σ cs).th (k := fun b cs1 => if b = true then y n σ cs1 else .ok false cs1) := by
  unfold mAnd; simp only [ev_bind, ite_ap, ev_pure]
@[simp] theorem ev_or {x y : M Bool} : mOr x y n σ cs = (x n σ cs).th (k := fun b cs1 => if b = true then .ok true cs1 else y n σ cs1) := by
  unfold mOr; simp only [ev_bind, ite_ap, ev_pure]
@[simp] theorem ev_not {x : M Bool} : mNot x n σ cs = (x n σ cs).th (k := fun b cs1 => .ok (!b) cs1) := by
  unfold mNot; simp only [ev_bind, ev_pure]
@[simp] theorem ev_eAnd {x y : M IV} : eAnd x y n σ cs = (mB x n σ cs).th (k := fun b cs1 => if b = true then y n σ cs1 else .ok (.bl false) cs1) := by
  unfold eAnd; simp only [ev_bind, ite_ap, ev_pure]
@[simp] theorem ev_eOr {x y : M IV} : eOr x y n σ cs = (mB x n σ cs).th (k := fun b cs1 => if b = true then .ok (.bl true) cs1 else y n σ cs1) := by
  unfold eOr; simp only [ev_bind, ite_ap, ev_pure]
@[simp] theorem ev_eNot {x : M IV} : eNot x n σ cs = (mB x n σ cs).th (k := fun b cs1 => .ok (.bl (!b)) cs1) := by
  unfold eNot; simp only [ev_bind, ev_pure]
@[simp] theorem ev_eIf {t : M Bool} {x y : M IV} : eIf t x y n σ cs = (t n σ cs).th (k := fun b cs1 => if b = true then x n σ cs1 else y n σ cs1) := by
  unfold eIf; simp only [ev_bind, ite_ap]
@[simp] theorem ev_chain {f f' : IV → IV → Option IV} {ma mb mc : M IV} : eChain f f' ma mb mc n σ cs = (ma n σ cs).th (k := fun x cs1 => (mb n σ cs1).th (k := fun y cs2 => (optR ((f x y).bind isB) cs2).th (k := fun b cs3 => if b = true then (mc n σ cs3).th (k := fun z cs4 => optR (f' y z) cs4) else .ok (.bl false) cs3))) := by
  unfold eChain
  simp only [ev_bind, ite_ap, ev_pure, ev_mB, ev_opt]
  congr 1; funext x cs1; congr 1; funext y cs2
  cases f x y <;> rfl
@[simp] theorem ev_aNil : aNil n σ cs = .ok [] cs := id rfl
@[simp] theorem ev_aCons {m : M IV} {r : M (List IV)} : aCons m r n σ cs = (m n σ cs).th (k := fun x cs1 => (r n σ cs1).th (k := fun xs cs2 => .ok (x :: xs) cs2)) := by
  unfold aCons; simp only [ev_bind, ev_pure]
@[simp] theorem ev_tup {m : M (List IV)} : eTup m n σ cs = (m n σ cs).th (k := fun xs cs1 => optR (if xs.length ≤ 1000000 then some (.tup xs) else none) cs1) := by
  unfold eTup; simp only [ev_bind, ev_opt]
@[simp] theorem ev_lst {m : M (List IV)} : eLst m n σ cs = (m n σ cs).th (k := fun xs cs1 => optR (if xs.length ≤ 1000000 then some (.lst xs) else none) cs1) := by
  unfold eLst; simp only [ev_bind, ev_opt]
@[simp] theorem ev_oNone : oNone n σ cs = .ok none cs := id rfl
@[simp] theorem ev_oSome {m : M IV} : oSome m n σ cs = (m n σ cs).th (k := fun x cs1 => optR ((asInt x).map some) cs1) := by
  unfold oSome; simp only [ev_bind, ev_opt]
@[simp] theorem ev_sl {m : M IV} {lo hi : M (Option Int)} : eSl m lo hi n σ cs = (m n σ cs).th (k := fun x cs1 => (lo n σ cs1).th (k := fun l cs2 => (hi n σ cs2).th (k := fun h cs3 => optR (slI x l h) cs3))) := by
  unfold eSl; simp only [ev_bind, ev_opt]
@[simp] theorem ev_rev {m : M IV} : eRev m n σ cs = (m n σ cs).th (k := fun x cs1 => optR (revI x) cs1) := by
  unfold eRev; simp only [ev_bind, ev_opt]
def negI (x : IV) : Option IV := match x with
  | .int i => some (.int (-i))
  | _ => none
@[simp] theorem negI_int {i : Int} : negI (.int i) = some (.int (-i)) := id rfl
@[simp] theorem ev_neg {m : M IV} : eNeg m n σ cs = (m n σ cs).th (k := fun x cs1 => optR (negI x) cs1) := by
  unfold eNeg; simp only [ev_bind, ev_opt]
  rfl
@[simp] theorem ev_fn {fm : FM} {np : Nat} {dxs : List IV} {m : M (List IV)} : eFn fm np dxs m n σ cs = (m n σ cs).th (k := fun xs cs1 => if (xs ++ dxs).length = np then fm n (xs ++ dxs) cs1 else .stuck) := id rfl
@[simp] theorem ev_lc {mi : M (List IV)} {gm : GM} {mt : M Bool} {me : M IV} {vs : List Nat} : eLc mi gm mt me vs n σ cs = (mi n σ cs).th (k := fun xs cs1 => (cmpL gm mt me n (wipeI σ vs) xs [] cs1).th (k := fun ys cs2 => .ok (.lst ys) cs2)) := id rfl
def kgI (tab : List (Str × IV)) (y : IV) : Option IV := match y with
  | .str z => some ((tabV tab z).getD .non)
  | _ => none
@[simp] theorem mIt_ev {m : M IV} : mIt m n σ cs = (m n σ cs).th (k := fun x cs1 => optR (seqI x) cs1) := by
  unfold mIt; simp only [ev_bind, ev_opt]

def enA (xs : List IV) : Option (List IV) := match xs with
  | [x] => (lstI x).map fun ys => enI ys 0
  | _ => none
@[simp] theorem enA_one {x : IV} : enA [x] = (lstI x).map fun ys => enI ys 0 := id rfl
@[simp] theorem ev_mEn {m : M (List IV)} : mEn m n σ cs = (m n σ cs).th (k := fun xs cs1 => optR (enA xs) cs1) := by
  unfold mEn; simp only [ev_bind, ev_opt]; rfl
def rg1A (xs : List IV) : Option (List IV) := match xs with
  | [.int j] => if -4611686018427387904 ≤ j ∧ j < 4611686018427387904 then some (rgI 0 j.toNat) else none
  | _ => none
@[simp] theorem rg1A_one {j : Int} : rg1A [.int j] = if -4611686018427387904 ≤ j ∧ j < 4611686018427387904 then some (rgI 0 j.toNat) else none := id rfl
@[simp] theorem ev_mRg1 {m : M (List IV)} : mRg1 m n σ cs = (m n σ cs).th (k := fun xs cs1 => optR (rg1A xs) cs1) := by
  unfold mRg1; simp only [ev_bind, ev_opt]; rfl
def rg2A (xs : List IV) : Option (List IV) := match xs with
  | [.int i, .int j] => if -4611686018427387904 ≤ i ∧ i < 4611686018427387904 ∧ -4611686018427387904 ≤ j ∧ j < 4611686018427387904 then some (rgI i (j - i).toNat) else none
  | _ => none
@[simp] theorem rg2A_two {i j : Int} : rg2A [.int i, .int j] = if -4611686018427387904 ≤ i ∧ i < 4611686018427387904 ∧ -4611686018427387904 ≤ j ∧ j < 4611686018427387904 then some (rgI i (j - i).toNat) else none := id rfl
@[simp] theorem ev_mRg2 {m : M (List IV)} : mRg2 m n σ cs = (m n σ cs).th (k := fun xs cs1 => optR (rg2A xs) cs1) := by
  unfold mRg2; simp only [ev_bind, ev_opt]; rfl
@[simp] theorem ev_get1 {mo m : M IV} : eGet1 mo m n σ cs = (mo n σ cs).th (k := fun x cs1 => if isDct x = true then (m n σ cs1).th (k := fun y cs2 => optR ((dgetI x y).map fun r => r.getD .non) cs2) else .stuck) := by
  unfold eGet1; simp only [ev_bind, ite_ap, ev_opt]
@[simp] theorem ev_get2 {mo m mf : M IV} : eGet2 mo m mf n σ cs = (mo n σ cs).th (k := fun x cs1 => if isDct x = true then (m n σ cs1).th (k := fun y cs2 => (mf n σ cs2).th (k := fun z cs3 => optR ((dgetI x y).map fun r => r.getD z) cs3)) else .stuck) := by
  unfold eGet2; simp only [ev_bind, ite_ap, ev_opt]
/-! statements -/
@[simp] theorem ev_sNext : sNext n σ cs = .next σ cs := id rfl
@[simp] theorem ev_sSeq {x y : SM} : sSeq x y n σ cs = (x n σ cs).seq (k := y n) := by
  unfold sSeq SR.seq; cases x n σ cs <;> rfl
@[simp] theorem ev_sDrop {m : M IV} : sDrop m n σ cs = thS (m n σ cs) σ (k := fun _ cs' => .next σ cs') := id rfl
@[simp] theorem ev_sRet {m : M IV} : sRet m n σ cs = thS (m n σ cs) σ (k := fun x cs' => .ret x cs') := id rfl
@[simp] theorem ev_sRetN : sRetN n σ cs = .ret .non cs := id rfl
@[simp] theorem ev_sBrk : sBrk n σ cs = .brk σ cs := id rfl
@[simp] theorem ev_sCnt : sCnt n σ cs = .cnt σ cs := id rfl
@[simp] theorem ev_sIf {c : M Bool} {x y : SM} : sIf c x y n σ cs = thS (c n σ cs) σ (k := fun k cs' => if k = true then x n σ cs' else y n σ cs') := id rfl
@[simp] theorem ev_sSet {i : Nat} {m : M IV} : sSet i m n σ cs = thS (m n σ cs) σ (k := fun x cs' => if i < σ.length then .next (σ.set i (.v x)) cs' else .stuck) := id rfl
@[simp] theorem ev_sOwn {i : Nat} {m : M (List IV)} : sOwn i m n σ cs = thS (m n σ cs) σ (k := fun xs cs' => if i < σ.length ∧ xs.length ≤ 1000000 then .next (σ.set i (.own xs)) cs' else .stuck) := id rfl
set_option checkBinderAnnotations false in
def ownR (o : Option SV) [k : List IV → SR] : SR := match o with
  | some (.own xs) => k xs
  | _ => .stuck
@[simp] theorem ownR_own {xs : List IV} {k : List IV → SR} : ownR (some (.own xs)) (k := k) = k xs := id rfl
@[simp] theorem ev_sApp {i : Nat} {m : M IV} : sApp i m n σ cs = ownR σ[i]? (k := fun xs => thS (m n σ cs) σ (k := fun x cs' => if xs.length < 1000000 then .next (σ.set i (.own (xs ++ [x]))) cs' else .stuck)) := id rfl
@[simp] theorem ev_sFrz {i : Nat} {b : SM} : sFrz i b n σ cs = ownR σ[i]? (k := fun xs => b n (σ.set i (.v (.lst xs))) cs) := id rfl
@[simp] theorem ev_sCell {i : Nat} {b : SM} : sCell i b n σ cs = ownR σ[i]? (k := fun xs => b n (σ.set i (.v (.cell cs.length))) (cs ++ [.lst xs])) := id rfl
def setR (σ : List SV) (cs : List Cell) (o i x : IV) : SR := match o, i with
  | .cell k, .int j => match cs[k]? with
    | some (.lst xs) => match setAt xs j x with
      | some ys => .next σ (cs.set k (.lst ys))
      | none => .stuck
    | _ => .stuck
  | _, _ => .stuck
@[simp] theorem ev_sSetIx {mo mi m : M IV} : sSetIx mo mi m n σ cs = thS (m n σ cs) σ (k := fun x cs1 => thS (mo n σ cs1) σ (k := fun o cs2 => thS (mi n σ cs2) σ (k := fun i cs3 => setR σ cs3 o i x))) := id rfl
@[simp] theorem ev_sPar {i j : Nat} {ma mb : M IV} : sPar i j ma mb n σ cs = thS (ma n σ cs) σ (k := fun x cs1 => thS (mb n σ cs1) σ (k := fun y cs2 => if i < σ.length ∧ j < σ.length then .next ((σ.set i (.v x)).set j (.v y)) cs2 else .stuck)) := id rfl
def nextO (o : Option (List SV)) (cs : List Cell) : SR := match o with
  | some σ => .next σ cs
  | none => .stuck
@[simp] theorem nextO_some : nextO (some σ) cs = .next σ cs := id rfl
@[simp] theorem ev_sAsg {gm : GM} {m : M IV} : sAsg gm m n σ cs = thS (m n σ cs) σ (k := fun x cs1 => nextO (gm x σ) cs1) := id rfl
set_option checkBinderAnnotations false in
def valR (o : Option SV) [k : IV → SR] : SR := match o with
  | some (.v x) => k x
  | _ => .stuck
@[simp] theorem valR_v {x : IV} {k : IV → SR} : valR (some (.v x)) (k := k) = k x := id rfl
def optN (o : Option IV) (σ : List SV) (i : Nat) (cs : List Cell) : SR := match o with
  | some z => .next (σ.set i (.v z)) cs
  | none => .stuck
@[simp] theorem optN_some {x : IV} {i : Nat} : optN (some x) σ i cs = .next (σ.set i (.v x)) cs := id rfl
@[simp] theorem ev_sAug {i : Nat} {f : IV → IV → Option IV} {m : M IV} : sAug i f m n σ cs = valR σ[i]? (k := fun x => thS (m n σ cs) σ (k := fun y cs1 => optN (f x y) σ i cs1)) := id rfl
@[simp] theorem ev_sFor {mi : M (List IV)} {gm : GM} {b : SM} : sFor mi gm b n σ cs = thS (mi n σ cs) σ (k := fun xs cs1 => forL gm b n xs σ cs1) := id rfl
@[simp] theorem ev_sMatch {m : M IV} {k : IV → SM} : sMatch m k n σ cs = thS (m n σ cs) σ (k := fun x cs' => k x n σ cs') := id rfl
@[simp] theorem ev_kNil {x : IV} : kNil x n σ cs = .next σ cs := id rfl
@[simp] theorem ev_kAny {b : SM} {x : IV} : kAny b x n σ cs = b n σ cs := id rfl
set_option checkBinderAnnotations false in
def caseR (o : Option Bool) [a : Unit → SR] [b : Unit → SR] : SR := match o with
  | some true => a ()
  | some false => b ()
  | none => .stuck
@[simp] theorem caseR_t {x y : Unit → SR} : caseR (some true) (a := x) (b := y) = x () := id rfl
@[simp] theorem caseR_f {x y : Unit → SR} : caseR (some false) (a := x) (b := y) = y () := id rfl
@[simp] theorem ev_kVal {c x : IV} {b : SM} {r : IV → SM} : kVal c b r x n σ cs = caseR (cEqD x c) (a := fun _ => b n σ cs) (b := fun _ => r x n σ cs) := by
  unfold kVal caseR cEq; rcases cEqD x c with _ | (_ | _) <;> rfl
@[simp] theorem ev_fnM {k : Nat} {b : SM} {xs : List IV} : fnM k b n xs cs = (b n (startI k xs) cs).fin := by
  unfold fnM SR.fin; cases b n (startI k xs) cs <;> rfl
@[simp] theorem ev_gmN {i : Nat} {x : IV} : gmN i x σ = if i < σ.length then some (σ.set i (.v x)) else none := id rfl
@[simp] theorem ev_gmTup {k : Nat} {b : GMs} {xs : List IV} : gmTup k b (.tup xs) σ = if xs.length = k then b xs σ else none := id rfl
@[simp] theorem ev_gmNil : gmNil [] σ = some σ := id rfl
@[simp] theorem ev_gmCons {g : GM} {b : GMs} {x : IV} {xs : List IV} : gmCons g b (x :: xs) σ = (g x σ).bind fun σ' => b xs σ' := id rfl
/-! loops -/
@[simp] theorem for_nil {gm : GM} {b : SM} : forL gm b n [] σ cs = .next σ cs := id rfl
theorem for_next {gm : GM} {b : SM} {x : IV} {xs : List IV} {σ1 σ2 : List SV} {cs2 : List Cell} (h : gm x σ = some σ1) (h2 : b n σ1 cs = .next σ2 cs2) : forL gm b n (x :: xs) σ cs = forL gm b n xs σ2 cs2 := by
  rw [forL, h]; dsimp only; rw [h2]
theorem for_cnt {gm : GM} {b : SM} {x : IV} {xs : List IV} {σ1 σ2 : List SV} {cs2 : List Cell} (h : gm x σ = some σ1) (h2 : b n σ1 cs = .cnt σ2 cs2) : forL gm b n (x :: xs) σ cs = forL gm b n xs σ2 cs2 := by
  rw [forL, h]; dsimp only; rw [h2]
theorem for_ret {gm : GM} {b : SM} {x v : IV} {xs : List IV} {σ1 : List SV} {cs2 : List Cell} (h : gm x σ = some σ1) (h2 : b n σ1 cs = .ret v cs2) : forL gm b n (x :: xs) σ cs = .ret v cs2 := by
  rw [forL, h]; dsimp only; rw [h2]
@[simp] theorem cmp_nil {gm : GM} {mt : M Bool} {me : M IV} {acc : List IV} : cmpL gm mt me n σ [] acc cs = .ok acc cs := id rfl
theorem cmp_yes {gm : GM} {mt : M Bool} {me : M IV} {x y : IV} {xs acc : List IV} {σ1 : List SV} {cs1 cs2 : List Cell} (h : gm x σ = some σ1) (h2 : mt n σ1 cs = .ok true cs1) (h3 : me n σ1 cs1 = .ok y cs2) (h4 : acc.length < lim) : cmpL gm mt me n σ (x :: xs) acc cs = cmpL gm mt me n σ xs (acc ++ [y]) cs2 := by
  rw [cmpL, h]; dsimp only; rw [h2]; dsimp only; rw [h3]; dsimp only; rw [if_pos h4]
theorem cmp_no {gm : GM} {mt : M Bool} {me : M IV} {x : IV} {xs acc : List IV} {σ1 : List SV} {cs1 : List Cell} (h : gm x σ = some σ1) (h2 : mt n σ1 cs = .ok false cs1) : cmpL gm mt me n σ (x :: xs) acc cs = cmpL gm mt me n σ xs acc cs1 := by
  rw [cmpL, h]; dsimp only; rw [h2]
end
/-! values -/
@[simp] theorem isB_bl {b : Bool} : isB (.bl b) = some b := id rfl
@[simp] theorem truI_bl {b : Bool} : truI (.bl b) = some b := id rfl
@[simp] theorem ceq_int {i j : Int} : cEq (.int i) (.int j) = some (.bl (decide (i = j))) := id rfl
@[simp] theorem cne_int {i j : Int} : cNe (.int i) (.int j) = some (.bl (!decide (i = j))) := id rfl
@[simp] theorem ceq_str {i j : Str} : cEq (.str i) (.str j) = some (.bl (decide (i = j))) := id rfl
@[simp] theorem cne_str {i j : Str} : cNe (.str i) (.str j) = some (.bl (!decide (i = j))) := id rfl
@[simp] theorem ceqd_str {i j : Str} : cEqD (.str i) (.str j) = some (decide (i = j)) := id rfl
@[simp] theorem ceqd_int {i j : Int} : cEqD (.int i) (.int j) = some (decide (i = j)) := id rfl
@[simp] theorem ceq_tup0 {xs : List IV} : cEq (.tup xs) (.tup []) = some (.bl xs.isEmpty) := by unfold cEq cEqD; cases xs <;> rfl
@[simp] theorem ceq_lst0 {xs : List IV} : cEq (.lst xs) (.lst []) = some (.bl xs.isEmpty) := by unfold cEq cEqD; cases xs <;> rfl
@[simp] theorem ceq_rol0 {xs : List IV} : cEq (.rol xs) (.lst []) = some (.bl xs.isEmpty) := by unfold cEq cEqD; cases xs <;> rfl
@[simp] theorem cne_tup0 {xs : List IV} : cNe (.tup xs) (.tup []) = some (.bl (!xs.isEmpty)) := by unfold cNe cEqD; cases xs <;> rfl
@[simp] theorem cne_lst0 {xs : List IV} : cNe (.lst xs) (.lst []) = some (.bl (!xs.isEmpty)) := by unfold cNe cEqD; cases xs <;> rfl
@[simp] theorem add_int {i j : Int} : bAdd (.int i) (.int j) = some (.int (i + j)) := id rfl
@[simp] theorem sub_int {i j : Int} : bSub (.int i) (.int j) = some (.int (i - j)) := id rfl
@[simp] theorem lt_int {i j : Int} : cLt (.int i) (.int j) = some (.bl (decide (i < j))) := id rfl
@[simp] theorem le_int {i j : Int} : cLe (.int i) (.int j) = some (.bl (decide (i ≤ j))) := id rfl
@[simp] theorem gt_int {i j : Int} : cGt (.int i) (.int j) = some (.bl (decide (j < i))) := id rfl
@[simp] theorem ge_int {i j : Int} : cGe (.int i) (.int j) = some (.bl (decide (j ≤ i))) := id rfl
theorem modN {i j : Int} (h : j ≠ 0) : bMod (.int i) (.int j) = some (.int (i.fmod j)) := if_pos h
theorem modI {i j : Int} (h : 0 < j) : bMod (.int i) (.int j) = some (.int (i % j)) := by
  rw [modN (by omega), Int.fmod_eq_emod_of_nonneg i (by omega)]
theorem log_le {n k : Nat} (h : n < 2 ^ k) (hk : 0 < k) : n.log2 < k := by
  by_cases h0 : n = 0
  · subst h0; simpa using hk
  · exact (Nat.log2_lt h0).mpr h
theorem fdivN {i j : Int} (h : j ≠ 0) {k : Nat} (h2 : j.natAbs < 2 ^ k) (h0 : 0 < k) (h3 : k < 9000) : bFdiv (.int i) (.int j) = some (.int (i.fdiv j)) := by
  refine if_pos ⟨h, ?_⟩
  have : j.natAbs.log2 < k := log_le h2 h0
  omega
theorem fdivI {i j : Int} (h : 0 < j) (h2 : j < 18446744073709551616) : bFdiv (.int i) (.int j) = some (.int (i / j)) := by
  rw [fdivN (by omega) (k := 64) (by omega) (by decide) (by decide), Int.fdiv_eq_ediv_of_nonneg i (by omega)]
theorem powI {i j : Int} (h : 0 ≤ j) (h2 : j ≤ 1000000) (h3 : i.natAbs < 18446744073709551616) : bPow (.int i) (.int j) = some (.int (i ^ j.toNat)) := if_pos ⟨h, h2, h3⟩
theorem mulI {i j : Int} (a b : Nat) (h : i.natAbs < 2 ^ a) (h2 : j.natAbs < 2 ^ b) (ha : 0 < a) (hb : 0 < b) (h3 : a + b < 1000000) : bMul (.int i) (.int j) = some (.int (i * j)) := by
  refine if_pos ?_
  have := log_le h ha
  have := log_le h2 hb
  omega
end SL

set_option Elab.async false
set_option linter.all false
set_option autoImplicit false
set_option maxRecDepth 100000
set_option maxHeartbeats 4000000
/-! SLNum: the numbers of a cell, and the draws. -/
namespace SL
open PySem PySem.Spec L2
open PyProof.Rows hiding St
def numB : SM := sIf (mAnd (mB (e2 cGe (eV 3) (e2 bPow (M.pure (.int 10)) (M.pure (.int 18))))) (mB (e2 cGt (eV 4) (M.pure (.int 0))))) (sSeq (sApp 5 (e2 bMod (eV 4) (e2c ixI (eV 2) (eV 6)))) (sSet 4 (e2 bFdiv (eV 4) (e2c ixI (eV 2) (eV 6))))) (sSeq (sSet 7 (e2 bMod (e2 bPow (e2 bAdd (e2 bAdd (e2 bMod (eV 3) (M.pure (.int 2147483629))) (e2 bMul (M.pure (.int 7919)) (eV 1))) (M.pure (.int 1))) (M.pure (.int 3))) (M.pure (.int 2147483647)))) (sSeq (sSet 7 (e2 bMod (e2 bMul (e2 bAdd (eV 7) (e2 bMul (M.pure (.int 104729)) (e2 bAdd (eV 6) (M.pure (.int 1))))) (e2 bAdd (eV 6) (M.pure (.int 3)))) (M.pure (.int 2147483629)))) (sSeq (sSet 7 (e2 bMod (e2 bMul (e2 bMod (e2 bPow (eV 7) (M.pure (.int 5))) (M.pure (.int 2147483647))) (M.pure (.int 48271))) (M.pure (.int 2147483629)))) (sApp 5 (e2 bMod (e2 bFdiv (eV 7) (M.pure (.int 16))) (e2c ixI (eV 2) (eV 6)))))))
def numM : SM := sSeq (sSet 3 (eCall fMax2 (aCons (eV 0) (aCons (e2 bSub (eNeg (M.pure (.int 1))) (eV 0)) (aNil))))) (sSeq (sSet 4 (eV 3)) (sSeq (sOwn 5 (aNil)) (sSeq (sFor (mRg1 (aCons (eCall fLen (aCons (eV 2) (aNil))) (aNil))) (gmN 6) numB) (sFrz 5 (sRet (eV 5))))))
def drawM : SM := sSeq (sSet 2 (e2c ixI (eV 0) (M.pure (.int 1)))) (sSeq (sSetIx (eV 0) (M.pure (.int 1)) (e2 bAdd (eV 2) (M.pure (.int 1)))) (sRet (eIf (mB (e2 cLt (eV 2) (eCall fLen (aCons (e2c ixI (eV 0) (M.pure (.int 0))) (aNil))))) (e2 bMod (eCall fInt (aCons (e2c ixI (e2c ixI (eV 0) (M.pure (.int 0))) (eV 2)) (aNil))) (eV 1)) (M.pure (.int 0)))))
def intL (zs : List Int) : List IV := zs.map IV.int
@[simp] theorem intL_len {zs : List Int} : (intL zs).length = zs.length := by simp [intL]
theorem intL_get {zs : List Int} {i : Nat} : (intL zs)[i]? = zs[i]?.map IV.int := by simp [intL]
theorem atN {α : Type} {xs : List α} {k : Nat} : atI xs (k : Int) = xs[k]? := by
  unfold atI ixN
  by_cases h : k < xs.length
  · have h1 : (0 : Int) ≤ (k : Int) ∧ (k : Int) < (xs.length : Int) := by omega
    simp [h]
  · rw [List.getElem?_eq_none (by omega)]
    simp
    omega
@[simp] theorem ixI_tup {cs : List Cell} {xs : List IV} {i : Int} : ixI cs (.tup xs) (.int i) = atI xs i := rfl
@[simp] theorem ixI_lst {cs : List Cell} {xs : List IV} {i : Int} : ixI cs (.lst xs) (.int i) = atI xs i := rfl
@[simp] theorem ixI_rol {cs : List Cell} {xs : List IV} {i : Int} : ixI cs (.rol xs) (.int i) = atI xs i := rfl
theorem ixI_cell {cs : List Cell} {xs : List IV} {k : Nat} {i : Int} (h : cs[k]? = some (.lst xs)) : ixI cs (.cell k) (.int i) = atI xs i := by
  show (match cs[k]? with | some (.lst xs) => atI xs i | _ => none) = _
  rw [h]
theorem pow3_lt {a : Int} (h0 : 0 ≤ a) (h : a < 18446744073709551616) : a.natAbs < 18446744073709551616 := by omega
/-- one turn of the loop -/
theorem numB_ok {n k : Nat} {cell salt whole left : Int} {zs ys : List Int} {o7 : SV} {cs : List Cell} (hk : k < zs.length) (hk2 : zs.length ≤ 10000) (hs : 0 ≤ salt) (hs2 : salt < 1000000) (hy : ys.length < 10000) (hz : ∀ z ∈ zs, 0 < z ∧ z < 18446744073709551616) :
    ∃ left' y o7', numB n [.v (.int cell), .v (.int salt), .v (.lst (intL zs)), .v (.int whole), .v (.int left), .own (intL ys), .v (.int k), o7] cs = .next [.v (.int cell), .v (.int salt), .v (.lst (intL zs)), .v (.int whole), .v (.int left'), .own (intL (ys ++ [y])), .v (.int k), o7'] cs ∧ 0 ≤ y ∧ y < zs.getD k 0 := by
  obtain ⟨z, ez⟩ : ∃ z, zs[k]? = some z := ⟨_, List.getElem?_eq_getElem hk⟩
  have hz1 := hz z (List.mem_of_getElem? ez)
  have ed : zs.getD k 0 = z := by simp [ez]
  have ei : atI (intL zs) (k : Int) = some (.int z) := by rw [atN, intL_get, ez]; rfl
  have hlen : ys.length < 1000000 := by omega
  have eap : ∀ y : Int, intL ys ++ [.int y] = intL (ys ++ [y]) := fun y => by simp [intL]
  unfold numB
  rw [ed]
  have hp18 : bPow (.int 10) (.int 18) = some (.int 1000000000000000000) := by rw [powI (by decide) (by decide) (by decide)]; rfl
  by_cases hb : (1000000000000000000 ≤ whole ∧ 0 < left)
  · refine ⟨left / z, left % z, o7, ?_, Int.emod_nonneg _ (by omega), Int.emod_lt_of_pos _ hz1.1⟩
    simp [hp18, hb.1, hb.2, ei, modI hz1.1, fdivI hz1.1 hz1.2, hlen, eap]
  · have hw0 : 0 ≤ whole % 2147483629 := Int.emod_nonneg _ (by decide)
    have hw1 : whole % 2147483629 < 2147483629 := Int.emod_lt_of_pos _ (by decide)
    have hk3 : (k : Int) < 10000 := by omega
    have hm1 : bMul (.int 7919) (.int salt) = some (.int (7919 * salt)) := mulI 64 64 (by decide) (by omega) (by decide) (by decide) (by decide)
    have hp1 : bPow (.int (whole % 2147483629 + 7919 * salt + 1)) (.int 3) = some (.int ((whole % 2147483629 + 7919 * salt + 1) ^ 3)) := powI (by decide) (by decide) (by omega)
    generalize ha : ((whole % 2147483629 + 7919 * salt + 1) ^ 3) % 2147483647 = a
    have ha0 : 0 ≤ a := by rw [← ha]; exact Int.emod_nonneg _ (by decide)
    have ha1 : a < 2147483647 := by rw [← ha]; exact Int.emod_lt_of_pos _ (by decide)
    have hm2 : bMul (.int 104729) (.int ((k : Int) + 1)) = some (.int (104729 * ((k : Int) + 1))) := mulI 64 64 (by decide) (by omega) (by decide) (by decide) (by decide)
    have hm3 : bMul (.int (a + 104729 * ((k : Int) + 1))) (.int ((k : Int) + 3)) = some (.int ((a + 104729 * ((k : Int) + 1)) * ((k : Int) + 3))) := mulI 64 64 (by omega) (by omega) (by decide) (by decide) (by decide)
    generalize hb2 : ((a + 104729 * ((k : Int) + 1)) * ((k : Int) + 3)) % 2147483629 = b
    have hb0 : 0 ≤ b := by rw [← hb2]; exact Int.emod_nonneg _ (by decide)
    have hb1 : b < 2147483629 := by rw [← hb2]; exact Int.emod_lt_of_pos _ (by decide)
    have hp2 : bPow (.int b) (.int 5) = some (.int (b ^ 5)) := powI (by decide) (by decide) (by omega)
    generalize hc2 : b ^ 5 % 2147483647 = c
    have hc0 : 0 ≤ c := by rw [← hc2]; exact Int.emod_nonneg _ (by decide)
    have hc1 : c < 2147483647 := by rw [← hc2]; exact Int.emod_lt_of_pos _ (by decide)
    have hm4 : bMul (.int c) (.int 48271) = some (.int (c * 48271)) := mulI 64 64 (by omega) (by decide) (by decide) (by decide) (by decide)
    have hd : ∀ x : Int, bMod (.int x) (.int 2147483629) = some (.int (x % 2147483629)) := fun x => modI (by decide)
    have hd2 : ∀ x : Int, bMod (.int x) (.int 2147483647) = some (.int (x % 2147483647)) := fun x => modI (by decide)
    have hd3 : ∀ x : Int, bFdiv (.int x) (.int 16) = some (.int (x / 16)) := fun x => fdivI (by decide) (by decide)
    have hif : ¬ (1000000000000000000 ≤ whole) ∨ ¬ (0 < left) := by omega
    refine ⟨left, c * 48271 % 2147483629 / 16 % z, .v (.int (c * 48271 % 2147483629)), ?_, Int.emod_nonneg _ (by omega), Int.emod_lt_of_pos _ hz1.1⟩
    rcases hif with hif | hif
    · simp [hp18, hif, ei, modI hz1.1, hlen, eap, hm1, hp1, hm2, hm3, hp2, hm4, hd, hd2, hd3, ha, hb2, hc2]
    · by_cases hw : 1000000000000000000 ≤ whole
      · simp [hp18, hw, hif, ei, modI hz1.1, hlen, eap, hm1, hp1, hm2, hm3, hp2, hm4, hd, hd2, hd3, ha, hb2, hc2]
      · simp [hp18, hw, ei, modI hz1.1, hlen, eap, hm1, hp1, hm2, hm3, hp2, hm4, hd, hd2, hd3, ha, hb2, hc2]
theorem numL_ok {n : Nat} {cell salt whole : Int} {zs : List Int} {cs : List Cell} (hk2 : zs.length ≤ 10000) (hs : 0 ≤ salt) (hs2 : salt < 1000000) (hz : ∀ z ∈ zs, 0 < z ∧ z < 18446744073709551616) :
    ∀ (m k : Nat) (left : Int) (ys : List Int) (o6 o7 : SV), k + m = zs.length → ys.length = k → (∀ (i : Nat) (y : Int), ys[i]? = some y → 0 ≤ y ∧ y < zs.getD i 0) →
    ∃ left' ys' o6' o7', forL (gmN 6) numB n (rgI k m) [.v (.int cell), .v (.int salt), .v (.lst (intL zs)), .v (.int whole), .v (.int left), .own (intL ys), o6, o7] cs = .next [.v (.int cell), .v (.int salt), .v (.lst (intL zs)), .v (.int whole), .v (.int left'), .own (intL ys'), o6', o7'] cs ∧ ys'.length = zs.length ∧ ∀ (i : Nat) (y : Int), ys'[i]? = some y → 0 ≤ y ∧ y < zs.getD i 0
  | 0, k, left, ys, o6, o7, e, e2, h => ⟨left, ys, o6, o7, rfl, by omega, h⟩
  | m + 1, k, left, ys, o6, o7, e, e2, h => by
    obtain ⟨l2, y, o7', h1, h2, h3⟩ := numB_ok (n := n) (k := k) (cell := cell) (whole := whole) (left := left) (o7 := o7) (cs := cs) (zs := zs) (ys := ys) (salt := salt) (by omega) hk2 hs hs2 (by omega) hz
    obtain ⟨l3, ys', p6, p7, q1, q2, q3⟩ := numL_ok (n := n) (cell := cell) (salt := salt) (whole := whole) (zs := zs) (cs := cs) hk2 hs hs2 hz m (k + 1) l2 (ys ++ [y]) (.v (.int k)) o7' (by omega) (by simp [e2]) (fun i w hw => by
      rcases Nat.lt_trichotomy i ys.length with hi | hi | hi
      · rw [List.getElem?_append_left hi] at hw; exact h i w hw
      · subst hi; rw [List.getElem?_append_right (by omega)] at hw; simp at hw; subst hw; rw [e2]; exact ⟨h2, h3⟩
      · rw [List.getElem?_eq_none (by simp; omega)] at hw; cases hw)
    refine ⟨l3, ys', p6, p7, ?_, q2, q3⟩
    rw [rgI, for_next (σ1 := [.v (.int cell), .v (.int salt), .v (.lst (intL zs)), .v (.int whole), .v (.int left), .own (intL ys), .v (.int k), o7]) rfl h1]
    exact q1
/-- the numbers of a cell -/
theorem num_ok {n : Nat} {cell salt : Int} {zs : List Int} {cs : List Cell} (hk2 : zs.length ≤ 10000) (hs : 0 ≤ salt) (hs2 : salt < 1000000) (hz : ∀ z ∈ zs, 0 < z ∧ z < 18446744073709551616) :
    ∃ ys : List Int, fnM 8 numM n [.int cell, .int salt, .lst (intL zs)] cs = .ok (.lst (intL ys)) cs ∧ ys.length = zs.length ∧ ∀ (i : Nat) (y : Int), ys[i]? = some y → 0 ≤ y ∧ y < zs.getD i 0 := by
  obtain ⟨whole, hw⟩ : ∃ whole : Int, fMax2 cs [.int cell, .int (-1 - cell)] = some (.int whole) := ⟨_, rfl⟩
  obtain ⟨l, ys, o6, o7, h1, h2, h3⟩ := numL_ok (n := n) (cell := cell) (salt := salt) (whole := whole) (zs := zs) (cs := cs) hk2 hs hs2 hz zs.length 0 whole [] .un .un (by omega) rfl (fun i y h => by simp at h)
  refine ⟨ys, ?_, h2, h3⟩
  have hl : fLen cs [.lst (intL zs)] = some (.int zs.length) := by show some (IV.int (intL zs).length) = _; rw [intL_len]
  have hr : (-4611686018427387904 : Int) ≤ (zs.length : Int) ∧ (zs.length : Int) < 4611686018427387904 := by omega
  have hn : ((zs.length : Nat) : Int).toNat = zs.length := by omega
  have h1' : forL (gmN 6) numB n (rgI 0 zs.length) [.v (.int cell), .v (.int salt), .v (.lst (intL zs)), .v (.int whole), .v (.int whole), .own [], .un, .un] cs = _ := h1
  unfold numM
  simp [startI, hw, hl, hr, hn, h1', List.replicate]
end SL

set_option Elab.async false
set_option linter.all false
set_option autoImplicit false
set_option maxRecDepth 100000
set_option maxHeartbeats 4000000
/-! SLLaw: what many laws ask alike: draws, texts of values, kinds. -/
namespace SL
open PySem PySem.Spec L2
open PyProof.Rows hiding St
/-! ### draws -/
/-- the cell k is a state of draws -/
def Good (c : Nat) (cs : List Cell) : Prop := ∃ (ys : List Int) (at_ : Nat), (∀ y ∈ ys, 0 ≤ y) ∧ cs[c]? = some (.lst [.lst (intL ys), .int at_])
theorem draw_ok {n c : Nat} {cs : List Cell} {many : Int} (hg : Good c cs) (hm : 0 < many) : ∃ r cs', fnM 3 drawM n [.cell c, .int many] cs = .ok (.int r) cs' ∧ Good c cs' ∧ cs'.length = cs.length ∧ 0 ≤ r ∧ r < many := by
  obtain ⟨ys, k, h0, hc⟩ := hg
  have e0 : ∀ i : Int, ixI cs (.cell c) (.int i) = atI [.lst (intL ys), .int k] i := fun i => ixI_cell hc
  have a0 : ∀ x y : IV, atI [x, y] 0 = some x := fun _ _ => rfl
  have a1 : ∀ x y : IV, atI [x, y] 1 = some y := fun _ _ => rfl
  have hlt : c < cs.length := by
    rcases Nat.lt_or_ge c cs.length with h | h
    · exact h
    · rw [List.getElem?_eq_none h] at hc; cases hc
  have hs : ∀ σ, setR σ cs (.cell c) (.int 1) (.int ((k : Int) + 1)) = .next σ (cs.set c (.lst [.lst (intL ys), .int ((k + 1 : Nat) : Int)])) := fun σ => by
    unfold setR; dsimp only; rw [hc]; rfl
  generalize hcs : cs.set c (.lst [.lst (intL ys), .int ((k + 1 : Nat) : Int)]) = cs' at hs
  have hc' : cs'[c]? = some (.lst [.lst (intL ys), .int ((k + 1 : Nat) : Int)]) := by rw [← hcs, List.getElem?_set_self hlt]
  have e0' : ∀ i : Int, ixI cs' (.cell c) (.int i) = atI [.lst (intL ys), .int ((k + 1 : Nat) : Int)] i := fun i => ixI_cell hc'
  have hl : fLen cs' [.lst (intL ys)] = some (.int ys.length) := by show some (IV.int (intL ys).length) = _; rw [intL_len]
  have hlen : cs'.length = cs.length := by rw [← hcs, List.length_set]
  have hg' : Good c cs' := ⟨ys, k + 1, h0, hc'⟩
  have hi : ∀ y : Int, fInt cs' [.int y] = some (.int y) := fun y => rfl
  by_cases hk : k < ys.length
  · obtain ⟨y, ey⟩ : ∃ y, ys[k]? = some y := ⟨_, List.getElem?_eq_getElem hk⟩
    have ei : atI (intL ys) (k : Int) = some (.int y) := by rw [atN, intL_get, ey]; rfl
    refine ⟨y % many, cs', ?_, hg', hlen, Int.emod_nonneg _ (by omega), Int.emod_lt_of_pos _ hm⟩
    unfold drawM
    simp [startI, e0, a0, a1, hs, e0', hl, hk, ei, hi, modI hm, List.replicate]
  · refine ⟨0, cs', ?_, hg', hlen, by omega, hm⟩
    unfold drawM
    simp [startI, e0, a0, a1, hs, e0', hl, hk, List.replicate]
theorem num_good {n : Nat} {cell salt : Int} {zs : List Int} {cs : List Cell} (hk2 : zs.length ≤ 10000) (hs : 0 ≤ salt) (hs2 : salt < 1000000) (hz : ∀ z ∈ zs, 0 < z ∧ z < 18446744073709551616) :
    ∃ ys : List Int, fnM 8 numM n [.int cell, .int salt, .lst (intL zs)] cs = .ok (.lst (intL ys)) cs ∧ ∀ cs', Good cs'.length (cs' ++ [.lst [.lst (intL ys), .int 0]]) := by
  obtain ⟨ys, h1, h2, h3⟩ := num_ok (n := n) (cell := cell) (salt := salt) (cs := cs) hk2 hs hs2 hz
  refine ⟨ys, h1, fun cs' => ⟨ys, 0, fun y hy => ?_, by simp⟩⟩
  obtain ⟨i, hi⟩ := List.getElem?_of_mem hy
  exact (h3 i y hi).1
/-! ### comprehensions over still cells -/
theorem cmp_pure {gm : GM} {mt : M Bool} {me : M IV} {n : Nat} {σ : List SV} {cs : List Cell} (p : IV → Bool) (g : IV → IV) : ∀ (xs acc : List IV), acc.length + xs.length ≤ 1000000 →
    (∀ x ∈ xs, ∃ σ1, gm x σ = some σ1 ∧ mt n σ1 cs = .ok (p x) cs ∧ (p x = true → me n σ1 cs = .ok (g x) cs)) → cmpL gm mt me n σ xs acc cs = .ok (acc ++ (xs.filter p).map g) cs
  | [], acc, hl, h => by simp
  | x :: xs, acc, hl, h => by
    obtain ⟨σ1, h1, h2, h3⟩ := h x (by simp)
    simp only [List.length_cons] at hl
    cases e : p x with
    | true =>
      rw [e] at h2
      rw [cmp_yes h1 h2 (h3 e) (by show _ < 1000000; omega), cmp_pure p g xs (acc ++ [g x]) (by simp; omega) (fun y hy => h y (by simp [hy]))]
      simp [e]
    | false =>
      rw [e] at h2
      rw [cmp_no h1 h2, cmp_pure p g xs acc (by omega) (fun y hy => h y (by simp [hy]))]
      simp [e]
theorem blsOf_map {α : Type} (f : α → Bool) : ∀ xs : List α, blsOf (xs.map fun x => .bl (f x)) = some (xs.map f)
  | [] => rfl
  | x :: xs => by simp only [List.map_cons, blsOf, blsOf_map f xs, Option.map_some]
/-- a loop that keeps I and goes through -/
theorem for_inv {gm : GM} {b : SM} {n : Nat} (I : List SV → List Cell → Prop) : ∀ (xs : List IV) (σ : List SV) (cs : List Cell), (∀ x ∈ xs, ∀ σ cs, I σ cs → ∃ σ1 σ2 cs2, gm x σ = some σ1 ∧ b n σ1 cs = .next σ2 cs2 ∧ I σ2 cs2) → I σ cs → ∃ σ' cs', forL gm b n xs σ cs = .next σ' cs' ∧ I σ' cs'
  | [], σ, cs, h, i => ⟨σ, cs, rfl, i⟩
  | x :: xs, σ, cs, h, i => by
    obtain ⟨σ1, σ2, cs2, h1, h2, h3⟩ := h x (by simp) σ cs i
    obtain ⟨σ', cs', e, k⟩ := for_inv I xs σ2 cs2 (fun y hy => h y (by simp [hy])) h3
    exact ⟨σ', cs', by rw [for_next h1 h2, e], k⟩
theorem enI_mem {x : IV} : ∀ {xs : List IV} {k : Nat}, x ∈ enI xs k → ∃ (i : Nat) (y : IV), i < k + xs.length ∧ k ≤ i ∧ y ∈ xs ∧ x = .tup [.int i, y]
  | [], k, h => by simp [enI] at h
  | a :: xs, k, h => by
    simp only [enI, List.mem_cons] at h
    rcases h with rfl | h
    · exact ⟨k, a, by simp, Nat.le_refl _, by simp, rfl⟩
    · obtain ⟨i, y, h1, h2, h3, h4⟩ := enI_mem h
      exact ⟨i, y, by simp; omega, by omega, by simp [h3], h4⟩
theorem atI_mem {α : Type} {xs : List α} {r : Int} (h0 : 0 ≤ r) (h : r < (xs.length : Int)) : ∃ y, y ∈ xs ∧ atI xs r = some y := by
  obtain ⟨k, rfl⟩ : ∃ k : Nat, r = k := ⟨r.toNat, by omega⟩
  have hk : k < xs.length := by omega
  exact ⟨xs[k], List.getElem_mem hk, by rw [atN, List.getElem?_eq_getElem hk]⟩
theorem cut_mem {xs : List IV} {lo hi : Option Int} {y : IV} (h : y ∈ cut xs lo hi) : y ∈ xs := List.mem_of_mem_drop (List.mem_of_mem_take h)
theorem cut_len {xs : List IV} {lo hi : Option Int} : (cut xs lo hi).length ≤ xs.length := by
  unfold cut; simp only [List.length_take, List.length_drop]; omega
theorem cut_top {xs : List IV} {j : Nat} : (cut xs none (some (j : Int))).length ≤ j := by
  unfold cut HT.sIx
  simp only [List.length_take, List.length_drop]
  split <;> omega
theorem rep_int {k : Nat} {z : Int} : repL k [IV.int z] = intL (List.replicate k z) := by
  unfold repL intL
  simp
/-- script[:j] + [z] * int(script == []) -/
theorem cells_ok {n : Nat} {σ : List SV} {cs : List Cell} {ns : List Int} {j : Nat} {z : Int} (hj : j ≤ 1000) (h0 : σ[0]? = some (.v (.rol (ns.map IV.int)))) :
    ∃ zs : List Int, e2 bAdd (eSl (eV 0) (oNone) (oSome (M.pure (.int (j : Int))))) (e2 bMul (eLst (aCons (M.pure (.int z)) (aNil))) (eCall fInt (aCons (e2 cEq (eV 0) (eLst (aNil))) (aNil)))) n σ cs = .ok (.lst (zs.map IV.int)) cs ∧ zs.length ≤ j + 1 := by
  obtain ⟨us, hu⟩ : ∃ us : List Int, cut (ns.map IV.int) none (some (j : Int)) = us.map IV.int := by
    unfold cut
    rw [← List.map_drop, ← List.map_take]
    exact ⟨_, rfl⟩
  have hl := cut_top (xs := ns.map IV.int) (j := j)
  rw [hu] at hl
  simp only [List.length_map] at hl
  have h1 : slI (.rol (ns.map IV.int)) none (some (j : Int)) = some (.lst (us.map IV.int)) := by rw [← hu]; rfl
  have h2 : ∀ b : Bool, fInt cs [.bl b] = some (.int (if b then 1 else 0)) := fun b => rfl
  have hasI : asInt (.int (j : Int)) = some (j : Int) := rfl
  cases hb : (ns.map IV.int).isEmpty with
  | true =>
    have h3 : bMul (.lst [.int z]) (.int 1) = some (.lst [.int z]) := rfl
    have h4 : bAdd (.lst (us.map IV.int)) (.lst [.int z]) = some (.lst ((us ++ [z]).map IV.int)) := by
      show (if _ then _ else _) = _
      rw [if_pos (by show _ ≤ 1000000; simp; omega)]
      simp
    refine ⟨us ++ [z], ?_, by simp; omega⟩
    rw [ev_e2, ev_sl, ev_v, h0]
    simp [hasI, h1, h0, hb, h2, h3, h4]
  | false =>
    have h3 : bMul (.lst [.int z]) (.int 0) = some (.lst []) := rfl
    have h4 : bAdd (.lst (us.map IV.int)) (.lst []) = some (.lst (us.map IV.int)) := by
      show (if _ then _ else _) = _
      rw [if_pos (by show _ ≤ 1000000; simp; omega)]
      simp
    refine ⟨us, ?_, by omega⟩
    rw [ev_e2, ev_sl, ev_v, h0]
    simp [hasI, h1, h0, hb, h2, h3, h4]
/-! ### kinds -/
def plainI : IV → Bool
  | .non | .bl _ | .int _ | .tup _ | .lst _ | .rol _ | .dct _ _ => true
  | .str s => decide (s.length ≤ 1000000)
  | _ => false
def knStr : IV → Bool
  | .str _ => true
  | _ => false
def knTup : IV → Bool
  | .tup _ => true
  | _ => false
def knInt : IV → Bool
  | .int _ => true
  | .bl _ => true
  | _ => false
def knBl : IV → Bool
  | .bl _ => true
  | _ => false
def knLst : IV → Bool
  | .lst _ => true
  | .rol _ => true
  | _ => false
def knDct : IV → Bool
  | .dct _ _ => true
  | _ => false
section
variable {cs : List Cell} {x : IV}
theorem isi_str (h : plainI x = true) : fIsi cs [x, .ty "str"] = some (.bl (knStr x)) := by cases x <;> first | rfl | cases h
theorem isi_tup (h : plainI x = true) : fIsi cs [x, .ty "tuple"] = some (.bl (knTup x)) := by cases x <;> first | rfl | cases h
theorem isi_int (h : plainI x = true) : fIsi cs [x, .ty "int"] = some (.bl (knInt x)) := by cases x <;> first | rfl | cases h
theorem isi_bool (h : plainI x = true) : fIsi cs [x, .ty "bool"] = some (.bl (knBl x)) := by cases x <;> first | rfl | cases h
theorem isi_lst (h : plainI x = true) : fIsi cs [x, .ty "list"] = some (.bl (knLst x)) := by cases x <;> first | rfl | cases h
theorem isi_dct (h : plainI x = true) : fIsi cs [x, .ty "dict"] = some (.bl (knDct x)) := by cases x <;> first | rfl | cases h
end
/-! ### repr -/
/-- x's text: k deep, b long at most; hd: with a dict perhaps; hl: with a list perhaps -/
structure RpD (d : PyData) (k b : Nat) (hd : Bool) : Prop where
  sh : d.showable = true
  lv : d.leavesShort 2000 = true
  bk : d.bulk ≤ b
  dp : d.depth ≤ k
  dc : d.hasDict = true → hd = true
def Rp (x : IV) (k b : Nat) (hd hl : Bool) : Prop := ∃ d, toPy x = some d ∧ RpD d k b hd ∧ (noLst x = false → hl = true)
structure RpDL (ds : List PyData) (k b : Nat) (hd : Bool) : Prop where
  sh : PyData.showableAll ds = true
  lv : PyData.leavesShortAll 2000 ds = true
  bk : PyData.bulkAll ds ≤ b
  dp : PyData.depthAll ds ≤ k
  dc : PyData.hasDictAll ds = true → hd = true
def RpL (xs : List IV) (k b : Nat) (hd hl : Bool) : Prop := ∃ ds, toPyL xs = some ds ∧ RpDL ds k b hd ∧ (noLstL xs = false → hl = true)
section
variable {x : IV} {xs : List IV} {k b b' : Nat} {hd hl : Bool}
theorem Rp.mono {k' b' : Nat} {hd' hl' : Bool} (h : Rp x k b hd hl) (h1 : k ≤ k') (h2 : b ≤ b') (h3 : hd = true → hd' = true) (h4 : hl = true → hl' = true) : Rp x k' b' hd' hl' := by
  obtain ⟨d, e, r, q⟩ := h
  exact ⟨d, e, ⟨r.sh, r.lv, Nat.le_trans r.bk h2, Nat.le_trans r.dp h1, fun z => h3 (r.dc z)⟩, fun z => h4 (q z)⟩
theorem rp_non : Rp .non k b hd hl := ⟨_, rfl, ⟨by simp only [PyData.showable], by simp only [PyData.leavesShort], by simp only [PyData.bulk]; omega, by simp only [PyData.depth]; omega, fun h => by simp only [PyData.hasDict] at h; cases h⟩, fun h => by simp only [noLst] at h; cases h⟩
theorem rp_bl {v : Bool} : Rp (.bl v) k b hd hl := ⟨_, rfl, ⟨by simp only [PyData.showable], by simp only [PyData.leavesShort], by simp only [PyData.bulk]; omega, by simp only [PyData.depth]; omega, fun h => by simp only [PyData.hasDict] at h; cases h⟩, fun h => by simp only [noLst] at h; cases h⟩
theorem strlen_of (x : String) : (Str.ofString x).length = x.length := PySem.ofString_length x
theorem rp_int {i : Int} (h : i.natAbs < 2 ^ 1900) : Rp (.int i) k b hd hl := by
  have hz : i.natAbs.log2 < 1900 := log_le h (by decide)
  refine ⟨_, rfl, ⟨by simp only [PyData.showable, decide_eq_true_eq]; omega, ?_, by simp only [PyData.bulk]; omega, by simp only [PyData.depth]; omega, fun h => by simp only [PyData.hasDict] at h; cases h⟩, fun h => by simp only [noLst] at h; cases h⟩
  have := int_text_length_le (k := 1900) (by decide) hz
  simp only [PyData.leavesShort, decide_eq_true_eq]
  show (Str.ofString (toString i)).length ≤ _
  rw [strlen_of]
  omega
theorem rp_str {s : Str} (h : s.cps.size ≤ b) (h2 : (s.cps.toList.all fun c => decide (c < 16 ^ 8)) = true) : Rp (.str s) k b hd hl := ⟨_, rfl, ⟨by simp only [PyData.showable], by simp only [PyData.leavesShort]; exact h2, by simp only [PyData.bulk]; exact h, by simp only [PyData.depth]; omega, fun h => by simp only [PyData.hasDict] at h; cases h⟩, fun h => by simp only [noLst] at h; cases h⟩
theorem rpl_nil : RpL [] k b hd hl := ⟨_, rfl, ⟨rfl, rfl, by simp only [PyData.bulkAll]; omega, by simp only [PyData.depthAll]; omega, fun h => by simp only [PyData.hasDictAll] at h; cases h⟩, fun h => by simp only [noLstL] at h; cases h⟩
theorem rpl_cons (h : Rp x k b hd hl) (t : RpL xs k b' hd hl) : RpL (x :: xs) k (b + 1 + b') hd hl := by
  obtain ⟨d, e, r, q⟩ := h
  obtain ⟨ds, e2, r2, q2⟩ := t
  refine ⟨d :: ds, by simp only [toPyL, e, e2], ⟨by simp only [PyData.showableAll, r.sh, r2.sh, Bool.and_self], by simp only [PyData.leavesShortAll, r.lv, r2.lv, Bool.and_self], ?_, ?_, ?_⟩, ?_⟩
  · have := r.bk; have := r2.bk
    simp only [PyData.bulkAll]; omega
  · have := r.dp; have := r2.dp
    simp only [PyData.depthAll]; omega
  · intro z
    simp only [PyData.hasDictAll, Bool.or_eq_true] at z
    rcases z with z | z
    · exact r.dc z
    · exact r2.dc z
  · intro z
    simp only [noLstL, Bool.and_eq_false_iff] at z
    rcases z with z | z
    · exact q z
    · exact q2 z
theorem rp_tup (h : RpL xs k b hd hl) : Rp (.tup xs) (k + 1) b hd hl := by
  obtain ⟨ds, e, r, q⟩ := h
  refine ⟨.tuple ds, by simp only [toPy, e, Option.map_some], ⟨by simp only [PyData.showable, r.sh], by simp only [PyData.leavesShort, r.lv], by simp only [PyData.bulk]; exact r.bk, by simp only [PyData.depth]; exact Nat.succ_le_succ r.dp, fun z => r.dc (by simpa only [PyData.hasDict] using z)⟩, fun z => q (by simpa only [noLst] using z)⟩
theorem rp_lst (h : RpL xs k b hd true) : Rp (.lst xs) (k + 1) b hd true := by
  obtain ⟨ds, e, r, q⟩ := h
  exact ⟨.list ds, by simp only [toPy, e, Option.map_some], ⟨by simp only [PyData.showable, r.sh], by simp only [PyData.leavesShort, r.lv], by simp only [PyData.bulk]; exact r.bk, by simp only [PyData.depth]; exact Nat.succ_le_succ r.dp, fun z => r.dc (by simpa only [PyData.hasDict] using z)⟩, fun z => rfl⟩
theorem rp_dct0 : Rp (.dct [] []) (k + 1) b true hl := by
  refine ⟨.dict [], rfl, ⟨by simp only [PyData.showable, PyData.showableKv], by simp only [PyData.leavesShort, PyData.leavesShortKv], by simp only [PyData.bulk, PyData.bulkKv]; omega, by simp only [PyData.depth, PyData.depthKv]; omega, fun _ => rfl⟩, fun h => by simp only [noLst, noLstL] at h; cases h⟩
theorem repr_ok (h : Rp x 60 400 hd hl) (e : (hd && hl) = false) : ∃ s : Str, reprOf x = some (.str s) := by
  obtain ⟨d, e1, r, q⟩ := h
  have h1 := PyData.shown_le_bulk 2000 (by decide) d r.lv
  have h2 : d.shown.length ≤ 1000000 := by have := r.bk; omega
  refine ⟨d.shown, ?_⟩
  unfold reprOf
  rw [e1]
  exact if_pos ⟨r.sh, r.dp, h2⟩
end
end SL

set_option Elab.async false
set_option linter.all false
set_option autoImplicit false
set_option maxRecDepth 100000
set_option maxHeartbeats 4000000
/-! SLKey: instances of own error classes whose __new__ is that of a class further up (KeyError has none of its own). -/
namespace PySem
namespace OwnKey
open PySem.W PySem.Calls PyProof.Rows PySem.HandSPX
section
variable {P : Program} {w : World} {A : Around} {h : Heap} {g : Array GenState} {dr : Drawn} {t : Nat} {os : OsState}
variable {nm qn : Str} {C N : Addr} {bs chain up : List Value} {hdct : Bool} {sn : List Str} {sub : List Value} {ab : Bool} {col : Option Bool} {dd : Option Addr} {k0 k1 k2 k3 k5 : Option Value} {O newId initId : String}
/-- what the chain must have for O's __new__ -/
structure Under (O : String) (chain : List Value) : Prop where
  own : chain.contains (.type O) = true
  attr : chain.contains (.type "AttributeError") = false
  name : chain.contains (.type "NameError") = false
theorem Under.withC (U : Under O chain) : (Value.ref C :: chain).contains (.type O) = true ∧ (Value.ref C :: chain).contains (.type "AttributeError") = false ∧ (Value.ref C :: chain).contains (.type "NameError") = false := by
  refine ⟨?_, ?_, ?_⟩
  · rw [List.contains_cons, U.own, Bool.or_true]
  · rw [List.contains_cons, U.attr]; rfl
  · rw [List.contains_cons, U.name]; rfl
theorem may_new (B : ExcBaseFacts O newId initId up) (U : Under O chain) {xs : List Value} {Q : Unit → Shared → Prop} {E : Value → Shared → Prop} (ho : h.get? C = some (excClassObj nm qn C N bs chain hdct sn sub ab col dd k0 k1 k2 k3 k5 newId)) (q : Q () ⟨h, g, dr, t, os⟩) :
    wpAny (model P w) A (checkBuiltinCall newId ⟨.ref C :: xs, []⟩) Q E ⟨h, g, dr, t, os⟩ := by
  have c1 := (U.withC (C := C)).1
  have ns := B.noStar
  simp only [checkBuiltinCall, B.newSplit, B.newRow, B.newKind]
  repeat (first
    | refine wpAny_loadPart_at ho ?_
    | (refine wpAny_isSubtype_exc ho ?_; rw [c1])
    | refine wpAny_madeBy_exc ho ?_
    | refine wpAny_staticBase_exc ho ?_
    | simp only [Bool.false_eq_true, bne_self_eq_false, if_false]
    | wp_step)
  exact q
theorem do_new (B : ExcBaseFacts O newId initId up) (U : Under O chain) {xs : List Value} {R : Result → Shared → Prop} (ho : h.get? C = some (excClassObj nm qn C N bs chain hdct sn sub ab col dd k0 k1 k2 k3 k5 newId)) (hx : xs.length ≤ sizeLine)
    (q : R (.ok (.ret (.ref (h.objs.size + 1)))) ⟨(h.push { cls := .type "tuple", data := .seq xs.toArray }).push { cls := .ref C, data := .fields #[.ref h.objs.size, .none, .none, .none, .bool false, .none] }, g, dr, t, os⟩) :
    codeAny (model P w) A (.builtin newId ⟨.ref C :: xs, []⟩) R ⟨h, g, dr, t, os⟩ := by
  obtain ⟨c1, c2, c3⟩ := U.withC (C := C)
  have e1 := B.ends
  refine codeAny_builtinAt B.entry ?_
  unfold Builtin.«BaseException.__new__»
  refine wpAt_bind ?_
  show wpAt _ _ _ (stack >>= _) _ _ _
  refine wpAt_bind (wpAt_stack fun _ _ => wpAt_of_wpAny ?_)
  wp_walk
  refine wpAt_of_wpAny ?_
  rw [B.owner]
  repeat (first
    | with_reducible refine wpAny_loadPart_at ho ?_
    | with_reducible refine wpAny_madeHere_exc B.canon ho ?_
    | (with_reducible refine wpAny_isSubtype_exc ho ?_; first | rw [c3] | rw [c2] | rw [c1])
    | wp_step)
  show R _ _
  rw [Heap.size_push]
  exact q
/-- C(xs..): a new one, then __init__ -/
theorem do_call (B : ExcBaseFacts O newId initId up) (U : Under O chain) {xs : List Value} {f : Addr} {R : Result → Shared → Prop} (ho : h.get? C = some (excClassObj nm qn C N bs chain hdct sn sub ab col dd k0 k1 k2 k3 k5 newId)) (hx : xs.length ≤ sizeLine)
    (li : Looks (model P w) h (typeLookup (.ref C) "__init__") (some (.ref f))) (lb : ∀ me, Looks (model P w) h (bindSpecial (.ref f) me) (.ref f, [me]))
    (q : codeAny (model P w) (A.under (.builtin "type.__call__" ⟨.ref C :: xs, []⟩)) (.call (.ref f) ⟨.ref (h.objs.size + 1) :: xs, []⟩) (InitBack (h.objs.size + 1) R) ⟨(h.push (kdv_tup xs)).push (excO C h.objs.size), g, dr, t, os⟩) :
    codeAny (model P w) A (.call (.ref C) ⟨xs, []⟩) R ⟨h, g, dr, t, os⟩ := by
  have f1 := tc_lookup
  have f2 := tc_bind (.ref C)
  have isT : (⟨h, g, dr, t, os⟩ : Shared).TypeIs (.ref C) "type" := ⟨_, ho, rfl⟩
  refine codeAny_of_tree ?_
  show wpAny _ _ (callAny (.ref C) _) _ _ _
  repeat (any_goals (first
    | assumption
    | with_reducible refine wpAny_loadPart_at ho ?_
    | wp_step))
  refine ⟨rfl, codeAny_call_builtin_at (Code.quiet_builtin _ (by decide +kernel)) entry_typeCall (wpAny_check_type_call_sub ho ?_)⟩
  repeat (first
    | with_reducible refine wpAny_madeBy_exc ho ?_
    | with_reducible refine wpAny_loadPart_at ho ?_
    | wp_step)
  refine codeAny_call_builtin_code (Code.quiet_builtin _ B.quiet) (may_new (xs := xs) B U ho (do_new (xs := xs) B U ho hx ?_))
  show wpAny _ _ _ _ _ _
  have kp : ∀ b o, h.get? b = some o → ((h.push (kdv_tup xs)).push (excO C h.objs.size)).get? b = some o := fun b o z => Heap.get?_push_of_some _ (Heap.get?_push_of_some _ z)
  have ho2 := kp _ _ ho
  have hn : ((h.push (kdv_tup xs)).push (excO C h.objs.size)).get? (h.objs.size + 1) = some { cls := .ref C, data := .fields #[.ref h.objs.size, .none, .none, .none, .bool false, .none] } := by heap_get
  have cC : (Value.ref C :: chain).contains (.ref C) = true := by simp
  unfold isInstance
  repeat (first
    | with_reducible refine wpAny_loadPart_at hn ?_
    | (with_reducible refine wpAny_isSubtype_exc ho2 ?_; rw [cC])
    | wp_step)
  show wpAny _ _ (typeLookup (.ref C) _) _ _ _
  refine (li.keeps kp).at (wpAny_holding (wpAny_bind (((lb (.ref (h.objs.size + 1))).keeps kp).at (wpAny_bind (wpAny_call (codeAny_mono q fun r s' z => ?_))))))
  cases r with
  | error e => exact z
  | ok fl =>
    cases fl with
    | ret v =>
      obtain ⟨rfl, z⟩ := z
      first
        | exact wpAny_pure (wpAny_pure z)
        | (wp_walk; exact z)
    | next => exact z.elim
    | brk => exact z.elim
    | cont => exact z.elim
end
end OwnKey
end PySem

set_option Elab.async false
set_option linter.all false
set_option autoImplicit false
set_option maxRecDepth 100000
set_option maxHeartbeats 4000000
/-! SLExc: own error classes with one field that their own __init__ stores: made, raised, read. -/
namespace PySem
namespace OwnEx
open PySem.W PySem.Calls PyProof.Rows PySem.HandSPX
open Builtin Builtin.ObjectAttr
/-- own classes, then the chain t -/
def refsT (t : List Value) : List Value → Bool
  | .ref _ :: r => refsT t r
  | l => l == t
theorem refsT_cases {t : List Value} : ∀ l : List Value, refsT t l = true → (∃ c r, l = .ref c :: r ∧ refsT t r = true) ∨ l = t
  | [], e => .inr (beq_iff_eq.mp e)
  | .ref c :: r, e => .inl ⟨c, r, rfl, e⟩
  | .none :: _, e => .inr (beq_iff_eq.mp e)
  | .ellipsis :: _, e => .inr (beq_iff_eq.mp e)
  | .notImplemented :: _, e => .inr (beq_iff_eq.mp e)
  | .bool _ :: _, e => .inr (beq_iff_eq.mp e)
  | .int _ _ :: _, e => .inr (beq_iff_eq.mp e)
  | .float _ _ :: _, e => .inr (beq_iff_eq.mp e)
  | .str _ _ :: _, e => .inr (beq_iff_eq.mp e)
  | .bytes _ _ :: _, e => .inr (beq_iff_eq.mp e)
  | .type _ :: _, e => .inr (beq_iff_eq.mp e)
  | .builtin _ :: _, e => .inr (beq_iff_eq.mp e)
theorem refsT_pass {B : String} {t : List Value} (SB : StoreFacts B t "object.__setattr__" "object") (me : Value) : ∀ l : List Value, refsT t l = true → refuseLoop me "__setattr__" l = pure ()
  | [], e => by
    rcases refsT_cases [] e with ⟨_, _, z, _⟩ | z
    · cases z
    · rw [z]; exact SB.passes me
  | a :: r, e => by
    rcases refsT_cases (a :: r) e with ⟨c, r', z, hr⟩ | z
    · cases z
      rw [refuseLoop_ref]
      exact refsT_pass SB me r hr
    · rw [z]; exact SB.passes me
theorem refsT_has {t : List Value} (Y : String) : ∀ l : List Value, refsT t l = true → l.contains (.type Y) = t.contains (.type Y)
  | [], e => by
    rcases refsT_cases [] e with ⟨_, _, z, _⟩ | z
    · cases z
    · rw [z]
  | a :: r, e => by
    rcases refsT_cases (a :: r) e with ⟨c, r', z, hr⟩ | z
    · cases z
      rw [List.contains_cons, refsT_has Y r hr]
      rfl
    · rw [z]
/-- an own class over the chain tl: called, it gives a new one to its __init__ -/
structure Makes (newId : String) (tl : List Value) : Prop where
  go : ∀ {P : Program} {w : World} {A : Around} {h : Heap} {g : Array GenState} {dr : Drawn} {t : Nat} {os : OsState} {nm qn : Str} {C N : Addr} {bs bm : List Value} {hdct : Bool} {sn : List Str} {sub : List Value} {ab : Bool} {col : Option Bool} {dd : Option Addr}
    {k0 k1 k2 k3 k5 : Option Value} {xs : List Value} {f : Addr} {R : Result → Shared → Prop}, refsT tl bm = true → h.get? C = some (excClassObj nm qn C N bs bm hdct sn sub ab col dd k0 k1 k2 k3 k5 newId) → xs.length ≤ sizeLine →
    W.Looks (model P w) h (typeLookup (.ref C) "__init__") (some (.ref f)) → (∀ me, W.Looks (model P w) h (bindSpecial (.ref f) me) (.ref f, [me])) →
    codeAny (model P w) (A.under (.builtin "type.__call__" ⟨.ref C :: xs, []⟩)) (.call (.ref f) ⟨.ref (h.objs.size + 1) :: xs, []⟩) (W.InitBack (h.objs.size + 1) R) ⟨(h.push (W.kdv_tup xs)).push (excO C h.objs.size), g, dr, t, os⟩ →
    codeAny (model P w) A (.call (.ref C) ⟨xs, []⟩) R ⟨h, g, dr, t, os⟩
theorem makes_of {B newId initId : String} {tl : List Value} (FB : ExcBaseFacts B newId initId tl) : Makes newId tl := ⟨fun hb ho hx li lb q => call_own FB (fun Y => refsT_has Y _ hb) ho li lb hx q⟩
theorem makes_up {O newId initId : String} {tl up : List Value} (B : ExcBaseFacts O newId initId up) (U : OwnKey.Under O tl) : Makes newId tl := ⟨fun hb ho hx li lb q =>
  OwnKey.do_call B ⟨(refsT_has _ _ hb).trans U.own, (refsT_has _ _ hb).trans U.attr, (refsT_has _ _ hb).trans U.name⟩ ho hx li lb q⟩
def chainKey : List Value := [.type "KeyError", .type "LookupError", .type "Exception", .type "BaseException", .type "object"]
theorem makes_KeyError : Makes "LookupError.__new__" [.type "KeyError", .type "LookupError", .type "Exception", .type "BaseException", .type "object"] := makes_up F.excBase_LookupError ⟨by decide +kernel, by decide +kernel, by decide +kernel⟩
theorem store_KeyError : StoreFacts "KeyError" [.type "KeyError", .type "LookupError", .type "Exception", .type "BaseException", .type "object"] "object.__setattr__" "object" := by
  refine ⟨by kernel_rfl, ?_, F.entry_object_sa, by decide +kernel, by decide +kernel, by decide +kernel, fun a b c => ?_, fun me => by kernel_rfl⟩
  · refine .of (owner := "object") (n := "__setattr__") ?_ (by decide +kernel) (by decide +kernel) (by decide +kernel) ?_ ?_
    · rw [typeLookup_type, builtinLookup_eq_fast]
      kernel_rfl
    · first
        | exact .inl (by decide +kernel)
        | exact .inr (by decide +kernel)
    · rw [isSubtype_type]
      kernel_rfl
  · unfold argsOk
    kernel_rfl
section
variable {prog : Program} {w : World} {A : Around} {E : Value → Shared → Prop} {R : Result → Shared → Prop} {hp : Heap} {g : Array GenState} {d : Drawn} {t : Nat} {os : OsState}
/-- self.fld = u, the first field of a new exception -/
theorem put_first {K : W.Frag} {B : String} {tl : List Value} {fld : Str} {k : Tok} {u : Value} {x C : Addr} {fv : Array Value} {cd : ClassData} (SB : StoreFacts B tl "object.__setattr__" "object")
    (KX : K.In hp) (hx : hp.get? x = some { cls := .ref C, data := .fields fv }) (hcd : W.clsIn K C = some cd) (hm : refsT tl cd.mro = true) (hh : cd.hasDict = true) (ha : W.findIn K (.ref C) fld = some none)
    (go : ∀ h' tk' dx, (∀ b o, b ≠ x → hp.get? b = some o → h'.get? b = some o) → hp.objs.size ≤ dx → dx ≠ x → h'.get? x = some { cls := .ref C, dict := some dx, data := .fields fv } →
      h'.Ns1 dx (fun y => if y = fld then some u else none) → R (.ok (.ret .none)) ⟨h', g, d, tk', os⟩) :
    codeAny (model prog w) A (.call (.builtin "object.__setattr__") ⟨[.ref x, .str fld k, u], []⟩) R ⟨hp, g, d, t, os⟩ := by
  have J : W.InstAt hp x { cls := .ref C, data := .fields fv } C none := ⟨hx, rfl, rfl, trivial⟩
  have SO := F.store_object
  have isO : cd.mro.contains (.type "object") = true := (refsT_has "object" _ hm).trans SB.hasOwner
  have ne : cd.mro.isEmpty = false := by
    cases e : cd.mro with
    | nil => rw [e] at isO; cases isO
    | cons _ _ => rfl
  have apart : x ≠ hp.objs.size := Nat.ne_of_lt (Heap.lt_size hx)
  have under : W.Looks (model prog w) hp (isInstance (.ref x) (.type "object")) true := J.type.andThen (W.looks_mroIn KX (by unfold W.mroIn; rw [hcd, Option.bind_some, if_neg (by rw [ne]; decide), isO]))
  refine codeAny_call_builtin SO.slot.plain SO.entry (@W.check_slot (model prog w) _ _ ⟨hp, g, d, t, os⟩ "object.__setattr__" "object" "__setattr__" (.ref x) [.str fld k, u] [] _ SO.kind SO.split under (SO.args (.ref x) (.str fld k) u) ?_)
  have lm : W.Looks (model prog w) hp (mroOf (.ref C)) cd.mro := (W.looks_clsIn KX hcd).andThen .now
  have lt : W.Looks (model prog w) hp (storeTaker? none) none := .now
  have lc : W.Looks (model prog w) hp (classData C) cd := W.looks_clsIn KX hcd
  rw [W.osa_eq, refuse_eq]
  refine wpAny_bind (wpAny_bind (J.type.at (wpAny_bind (lm.at ?_))))
  rw [refsT_pass SB _ _ hm]
  refine wpAny_pure (wpAny_bind (J.type.at (wpAny_bind ((W.looks_findIn KX ha).at (wpAny_bind (lt.at ?_))))))
  show wpAny _ _ (storeInOwnDict (.ref x) (.ref C) (.str fld k) fld u false) _ _ _
  obtain ⟨n1, n2, mro, n3, n4, hd, n5, n6, n7, n8, n9⟩ := cd
  dsimp only at hh
  subst hh
  unfold storeInOwnDict ownDictForStores
  repeat (first | with_reducible refine store_in_new ?_ ?_ | with_reducible refine wpAny_loadPart_at hx ?_ | with_reducible refine lc.at ?_ | wp_step)
  · exact ⟨_, #[], _, (Heap.get?_update_ne _ _ _ _ apart.symm).trans (Heap.get?_push_at rfl rfl), rfl, fun e he => absurd he (by simp), fun _ => rfl⟩
  · intro h' tk' hn' sb
    have hx1 : (hp.push { cls := .type "dict", data := .dict #[] }).get? x = some { cls := .ref C, data := .fields fv } := Heap.get?_push_of_some _ hx
    refine go h' tk' hp.objs.size (fun b o hb ho => ?_) (Nat.le_refl _) apart.symm ?_ hn'
    · exact (sb.2 b (Nat.ne_of_lt (Heap.lt_size ho))).trans ((Heap.get?_update_ne _ _ _ _ hb).trans (Heap.get?_push_of_some _ ho))
    · exact (sb.2 x apart).trans (Heap.get?_update_self _ hx1 rfl)
end
/-! ### the text of __init__ -/
def inA (fld : Str) (p1 p2 : Pos) : Arguments := { posonlyargs := [], args := [{ arg := "self", annotation := none, pos := p1 }, { arg := fld, annotation := none, pos := p2 }], vararg := none, kwonlyargs := [], kw_defaults := [], kwarg := none, defaults := [] }
def inB (fld : Str) (q1 q2 q3 q4 : Pos) : List Stmt := [.Assign [.Attribute (.Name "self" q1) fld q2] (.Name fld q3) q4]
def inS (fld : Str) : Scope := { kind := .function, names := [(PySem.Str.ofString "self", .local), (fld, .local)], isGenerator := false, isCoroutine := false, more := [] }
/-- what the written part says of the class cn, at C, with the one field fld, and of its __init__, at fI; tl: the chain of its built-in base -/
structure ExTxt (K : Frag) (mg : Str → Option Value) (cn fld iq : Str) (B newId initId : String) (tl : List Value) (C fI : Addr) : Prop where
  gC : mg cn = some (.ref C)
  cls : ∃ nm q N bs bm sn sub ab col dd k0 k1 k2 k3 k5, K.lookup C = some (excClassObj nm q C N bs bm true sn sub ab col dd k0 k1 k2 k3 k5 newId) ∧ refsT tl bm = true
  sa : findIn K (.ref C) "__setattr__" = some (some (.builtin "object.__setattr__"))
  ga : findIn K (.ref C) "__getattribute__" = some (some (.builtin "BaseException.__getattribute__"))
  gg : findIn K (.ref C) "__getattr__" = some none
  noN : findIn K (.ref C) fld = some none
  iC : findIn K (.ref C) "__init__" = some (some (.ref fI))
  tC : typeIn K (.ref fI) = some (.type "function")
  kC : keepIn K (.ref C) = true
  exC : subIn K (.ref C) (.type "BaseException") = some true
  tyC : typeIn K (.ref C) = some (.type "type")
  hdC : hasDictIn K C = true
  fn : ∃ (oc : Value) (od : Option Addr) (doc pm : Value) (an : Option Addr) (cdv ct : Value) (osl : Array (Option Value)) (p1 p2 q1 q2 q3 q4 : Pos),
    K.lookup fI = some ⟨oc, od, .func (fnOf "__init__" iq (inA fld p1 p2) (inB fld q1 q2 q3 q4) (inS fld) .none .none doc pm an cdv ct), osl⟩ ∧ codeIn K cdv iq = true ∧ ∀ a b : Value, bindArgs (fnOf "__init__" iq (inA fld p1 p2) (inB fld q1 q2 q3 q4) (inS fld) .none .none doc pm an cdv ct) ⟨[a, b], []⟩ = pure [(("self" : Str), a), (fld, b)]
  fs : fld ≠ "self" ∧ (fld == ("__debug__" : Str)) = false
theorem one_arg (v : Value) : [v].length ≤ sizeLine := by
  rw [sizeLine_eq]
  exact (by decide : 1 ≤ 16777216)
theorem ldN {M : Model} {s : Shared} {name : Str} {scope : Scope} {L a : Addr} {cd : Value} {m : Str → Option Value} {x : Str} {pos : Pos} {v : Value} {Q : Value → Shared → Prop} {A : Around} {E : Value → Shared → Prop} (hn : s.heap.Ns L m) (hv : m x = some v) (h : Q v s)
    (hk : scope.kind = .function) (hl : (envOfC name scope L a cd).kindOf x = some .local) (hd : (x == ("__debug__" : Str)) = false) :
    wpAny M A (eval (.Name x pos) (envOfC name scope L a cd)) Q E s := wpAny_Name (wpAny_loadName_local hk hl hn hv h) hd
/-- what __init__ leaves of a new exception at x -/
structure InEnd (h h' : Heap) (x C dx t1 : Addr) (fld : Str) (v : Value) : Prop where
  keep : ∀ b o, b ≠ x → h.get? b = some o → h'.get? b = some o
  obj : h'.get? x = some { cls := .ref C, dict := some dx, data := .fields #[.ref t1, .none, .none, .none, .bool false, .none] }
  dbig : h.objs.size ≤ dx
  dne : dx ≠ x
  ns : h'.Ns1 dx (fun y => if y = fld then some v else none)
/-- a made exception -/
structure ExMade (h h' : Heap) (e C d : Addr) (fld : Str) (v : Value) : Prop where
  keep : ∀ b o, h.get? b = some o → h'.get? b = some o
  new : h.objs.size ≤ e
  obj : ∃ oe vs, h'.get? e = some oe ∧ oe.cls = .ref C ∧ oe.dict = some d ∧ oe.data = .fields vs ∧ vs[1]? = some .none
  dbig : h.objs.size ≤ d
  dne : d ≠ e
  ns : h'.Ns1 d (fun y => if y = fld then some v else none)
section
variable {prog : Program} {w : World} {A : Around} {E : Value → Shared → Prop} {R : Result → Shared → Prop} {s : Shared} {K : Frag} {mg : Str → Option Value} {C fI : Addr} {cn fld iq : Str} {B newId initId : String} {tl : List Value}
theorem ex_init (SB : StoreFacts B tl "object.__setattr__" "object") (T : ExTxt K mg cn fld iq B newId initId tl C fI) {x t0 : Addr} {v : Value} (KX : K.In s.heap) (hlim : s.heap.NoLimit) (hx : s.heap.get? x = some (excO C t0)) (hroom : A.depth < recursionLimit)
    (go : ∀ h' tk dx, InEnd s.heap h' x C dx t0 fld v → R (.ok (.ret .none)) { s with heap := h', toks := tk }) :
    codeAny (model prog w) A (.call (.ref fI) ⟨[.ref x, v], []⟩) R s := by
  obtain ⟨oc, od, doc, pm, an, cdv, ct, osl, p1, p2, q1, q2, q3, q4, ho, hcd, hbd⟩ := T.fn
  obtain ⟨nm, q, N, bs, bm, sn, sub, ab, col, dd, k0, k1, k2, k3, k5, hC, hbm⟩ := T.cls
  obtain ⟨fs1, fs2⟩ := T.fs
  have hcl : clsIn K C = some { name := nm, bases := bs, mro := .ref C :: bm, ns := N, qualname := q, hasDict := true, slotNames := sn, subclasses := sub, abstract := ab, collection := col, hasDel := false } := by unfold clsIn; rw [hC] <;> rfl
  have lk1 : List.lookup ("self" : Str) (inS fld).names = some NameKind.local := rfl
  have lk2 : List.lookup fld (inS fld).names = some NameKind.local := by
    have e : (fld == (PySem.Str.ofString "self")) = false := by simpa using fs1
    show List.lookup fld [(PySem.Str.ofString "self", NameKind.local), (fld, NameKind.local)] = _
    simp [List.lookup, e]
  refine Att.call_fn (binds := [(("self" : Str), .ref x), (fld, v)]) KX hlim ho hcd hroom (BindsTo.of_eq (hbd _ _)) ?hloc (fun s₁ IC => ?_) rfl rfl rfl
  case hloc =>
    simp only [List.all_cons, List.all_nil, lk1, lk2]
    rfl
  obtain ⟨h₁, tk₁, rfl⟩ := IC.toInCall.same
  have kp : ∀ b o, s.heap.get? b = some o → h₁.get? b = some o := IC.toInCall.keep
  have hn := IC.toInCall.ns
  have K1 : K.In h₁ := KX.keeps kp
  have hx₁ := kp _ _ hx
  -- self.fld = fld
  show wpAny _ _ (execs _ _) _ _ _
  refine wpAny_execs_cons (plainObj_wpAny_Assign_Attribute ?_)
  refine ldN (v := v) hn ?_ (ldN (v := .ref x) hn ?_ ?_ rfl lk1 (by decide)) rfl lk2 fs2
  · have g1 : (envOfC iq (inS fld) s.heap.objs.size fI cdv).kindOf ("self" : Str) = some .local := lk1
    have g2 : (envOfC iq (inS fld) s.heap.objs.size fI cdv).kindOf fld = some .local := lk2
    simp only [bindL, g1, g2, if_true]
  · have g1 : (envOfC iq (inS fld) s.heap.objs.size fI cdv).kindOf ("self" : Str) = some .local := lk1
    have g2 : (envOfC iq (inS fld) s.heap.objs.size fI cdv).kindOf fld = some .local := lk2
    simp only [bindL, g1, g2, if_true, if_neg (Ne.symm fs1)]
  refine set_plain K1 (ox := excO C t0) (od := none) ⟨hx₁, rfl, rfl, trivial⟩ T.sa ?_
  refine put_first SB K1 hx₁ hcl (show refsT tl (.ref C :: bm) = true from hbm) rfl T.noN (fun h₃ tk₃ dx k₃ dn dne hx₃ hn₃ => ?_)
  show wpAny _ _ (execs _ _) _ _ _
  have z : s.heap.objs.size < h₁.objs.size := hn.lt
  exact wpAny_execs_nil (go h₃ tk₃ dx ⟨fun b o hb e => k₃ b o hb (kp b o e), hx₃, Nat.le_of_lt (Nat.lt_of_lt_of_le z dn), dne, hn₃⟩)
theorem ex_made (FB : Makes newId tl) (SB : StoreFacts B tl "object.__setattr__" "object") (T : ExTxt K mg cn fld iq B newId initId tl C fI) {v : Value} (KX : K.In s.heap) (hlim : s.heap.NoLimit) (hroom : A.depth + 1 < recursionLimit)
    (go : ∀ h' tk e d, ExMade s.heap h' e C d fld v → R (.ok (.ret (.ref e))) { s with heap := h', toks := tk }) :
    codeAny (model prog w) A (.call (.ref C) ⟨[v], []⟩) R s := by
  obtain ⟨nm, q, N, bs, bm, sn, sub, ab, col, dd, k0, k1, k2, k3, k5, hC, hbm⟩ := T.cls
  obtain ⟨hp, g, dr, tk, os⟩ := s
  have kp : ∀ b o, hp.get? b = some o → ((hp.push (kdv_tup [v])).push (excO C hp.objs.size)).get? b = some o := fun b o e => Heap.get?_push_of_some _ (Heap.get?_push_of_some _ e)
  have at1 : ((hp.push (kdv_tup [v])).push (excO C hp.objs.size)).get? (hp.objs.size + 1) = some (excO C hp.objs.size) := by heap_get
  refine FB.go hbm (KX _ _ hC) (one_arg v) (looks_findIn KX T.iC) (fun me => bind_fn KX me T.tC) ?_
  refine ex_init (s := ⟨(hp.push (kdv_tup [v])).push (excO C hp.objs.size), g, dr, tk, os⟩) SB T (KX.keeps kp) (hlim.keeps kp) at1 ?_ fun h' tk' dx ⟨k', hx, dn, dne, hns⟩ => ?_
  · show A.depth + 1 < recursionLimit
    exact hroom
  · have old : ∀ b o, hp.get? b = some o → h'.get? b = some o := fun b o e => k' b o (Nat.ne_of_lt (Nat.lt_succ_of_lt (Heap.lt_size e))) (kp b o e)
    have z : hp.objs.size + 1 + 1 ≤ dx := by
      first
        | (simpa only [Heap.size_push] using dn)
        | exact dn
        | (have q := dn; rw [Heap.size_push, Heap.size_push] at q; exact q)
    exact ⟨rfl, go h' tk' (hp.objs.size + 1) dx ⟨old, Nat.le_succ _, ⟨_, _, hx, rfl, rfl, rfl, rfl⟩, Nat.le_trans (Nat.le_trans (Nat.le_succ _) (Nat.le_succ _)) z, dne, hns⟩⟩
end
end OwnEx
end PySem
namespace SL
open PySem PySem.Spec L2
open PyProof.Rows hiding St
open PySem.OwnEx (ExTxt ex_made ExMade Makes)
theorem relO_one {v : V} {u : Value} {fld : Str} (r : RelV v u) (f : Str) : RelO (List.lookup f [(fld, v)]) (if f = fld then some u else none) := by
  by_cases hw : f = fld
  · subst hw
    rw [if_pos rfl]
    have q : List.lookup f [(f, v)] = some v := by simp [List.lookup]
    rw [q]
    exact r
  · rw [if_neg hw]
    have qw : (f == fld) = false := by simpa using hw
    have q2 : List.lookup f [(fld, v)] = none := by simp [List.lookup, qw]
    rw [q2]
    trivial
section
variable {X : Cx} {n k : Nat} {W : WX} {e a : Expr} {m : M IV} {mr : M (List IV)} {cn fld iq : Str} {B newId initId : String} {tl : List Value} {C fI : Addr} {p pos pos2 : Pos}
/-- cn(a): what is made -/
theorem pmk_ex {ta : TA} (FB : Makes newId tl) (SB : StoreFacts B tl "object.__setattr__" "object") (T : ExTxt X.K X.mg cn fld iq B newId initId tl C fI) (hr : Room k X.A) (ha : PA X [a] ta) (hg : Gl X cn := by rfl) (hdb : (cn == ("__debug__" : Str)) = false := by decide)
    (hst : starEach (a :: []) X.env = (false, eval a X.env) :: starEach [] X.env := by rfl) (hpl : (backTo pos (starEach [] X.env)).any (·.1) = false := by rfl) :
    PMk X (.Call (.Name cn p) [a] [] pos) (fun σ H Q => ta σ H fun vs H1 => ∃ v, vs = [v] ∧ ∀ d, H1 d = none → Q (.ref C) (some d) (upd H1 d (.xd [(fld, v)]))) := by
  intro pins s σ H Q I h
  refine wpAny_Call_Name_kw (ld_glob I hg T.gC ?_ hdb)
  refine PySem.W.callWith_K (h₀ := X.base) I.ok.mod.kin T.kC (thn (ha.run pos pins s σ H _ I h) fun us s1 hh => ?_) hst hpl
  obtain ⟨vs, H1, I1, r1, v, ev, q1⟩ := hh
  subst ev
  refine ⟨I1.kIn, ?_⟩
  cases r1 with
  | cons rv rn =>
    rename_i u us'
    cases rn
    show wpAny _ _ (call (.ref C) [u]) _ _ _
    have lim1 := I1.nolimit
    obtain ⟨hp, g, dr, tk, os⟩ := s1
    refine wpAny_call (ex_made FB SB T I1.kIn lim1 (by have := hr.dp; omega) fun h' tk' e d M => ?_)
    show MkP X pins σ Q (.ref e) ⟨h', g, dr, tk', os⟩
    obtain ⟨oe, fv, hoe, hc, hd, hdat, hf1⟩ := M.obj
    obtain ⟨G', g1, g2⟩ := restrict h' fun b => decide (b ≠ e)
    have gk : ∀ b, b ≠ e → G'.get? b = h'.get? b := fun b hb => g1 b (decide_eq_true hb)
    have ge : G'.get? e = none := g2 e (by simp)
    have old : ∀ b o, hp.get? b = some o → G'.get? b = some o := fun b o q => (gk b (Nat.ne_of_lt (Nat.lt_of_lt_of_le (Heap.lt_size q) M.new))).trans (M.keep b o q)
    have ob : ObjOk X.prog X.w (upd H1 d (.xd [(fld, v)])) G' d (.xd [(fld, v)]) := ⟨_, M.ns.at (fun o q => (gk d M.dne).trans q), fun f => relO_one rv f⟩
    have J : Inv X pins σ (upd H1 d (.xd [(fld, v)])) ⟨G', g, dr, tk', os⟩ := I1.laid (t' := tk') old M.dbig ob
    refine ⟨e, oe, fv, ⟨G', g, dr, tk', os⟩, _, .ref C, some d, rfl, J, fun b o q => ?_, ge, hoe, ⟨hc, hd⟩, hdat, hf1, ?_, rfl, I1.bare, raises_own T.exC T.tyC, q1 d (I1.hok.fresh M.dbig)⟩
    · by_cases hb : b = e
      · have q' : G'.get? b = some o := q
        rw [hb, ge] at q'; cases q'
      · exact (gk b hb).symm.trans q
    · rw [upd_ne (Ne.symm M.dne)]
      exact I1.hok.fresh M.new
/-- raise cn(e) -/
def sRaise (cn fld : Str) (m : M IV) : SM := fun n σ cs => thenS (m n σ cs) σ fun x cs' => .ex ⟨cn, [fld], [x]⟩ σ cs'
@[simp] theorem ev_sRaise {n : Nat} {σ : List SV} {cs : List Cell} {m : M IV} : sRaise cn fld m n σ cs = thS (m n σ cs) σ (k := fun x cs' => .ex ⟨cn, [fld], [x]⟩ σ cs') := id rfl
theorem js_raise (hc : X.calm = true) (tk : Takes X W) (FB : Makes newId tl) (SB : StoreFacts B tl "object.__setattr__" "object") (T : ExTxt X.K X.mg cn fld iq B newId initId tl C fI) (hr : Room k X.A) (ha : JE X n W a m) (hg : Gl X cn := by rfl) (hdb : (cn == ("__debug__" : Str)) = false := by decide)
    (hst : starEach (a :: []) X.env = (false, eval a X.env) :: starEach [] X.env := by rfl) (hpl : (backTo pos (starEach [] X.env)).any (·.1) = false := by rfl) :
    JS X n W (.Raise (some (.Call (.Name cn p) [a] [] pos)) none pos2) (sRaise cn fld m) := by
  have hA : JA X n W [a] (aCons m aNil) := ja_cons ha ja_nil (hs := hst)
  refine ps_imp (ps_raise hc tk (pmk_ex FB SB T hr hA hg hdb hst hpl)) fun D σ H h => ?_
  obtain ⟨F, ρ, cs, σi, hs, hl, hp⟩ := h
  show tG (gx X) n W (RelL (gx X)) (aCons m aNil) σ H _
  refine ⟨F, ρ, cs, σi, hs, hl, ?_⟩
  have e : aCons m aNil n σi cs = (m n σi cs).then fun x cs1 => .ok [x] cs1 := rfl
  rw [e]
  unfold sRaise at hp
  cases hm : m n σi cs with
  | ok x cs1 =>
    rw [hm] at hp
    intro F' ρ' H' vs st hs' rl
    obtain ⟨v, r, rfl, rv, rn⟩ := rl
    simp only [RelL] at rn
    subst rn
    refine ⟨v, rfl, fun d hd => ?_⟩
    obtain ⟨hs2, st2⟩ := hs'.new (o := .xd [(fld, v)]) hd
    have st3 := st.tr st2
    refine hp _ ρ' _ σ (.ref C) (some d) st3.u hs2 (hl.stp st3) (fun x o => .inl o) ?_
    exact ⟨C, d, [v], T.gC, rfl, rfl, upd_same, rfl, by simp only [RelL]; exact ⟨v, [], rfl, rv.stp st2, rfl⟩⟩
  | ex y cs1 =>
    rw [hm] at hp
    exact fun F' ρ' H' cls d st hs' r => hp F' ρ' H' σ cls d st.u hs' (hl.stp st) (fun x o => .inl o) r
  | stuck => rw [hm] at hp; exact hp.elim
end
end SL

set_option Elab.async false
set_option linter.all false
set_option autoImplicit false
set_option maxRecDepth 100000
set_option maxHeartbeats 4000000
/-! SLTry: except X as e; a lambda handed to a def that calls it under try. -/
namespace SL
open PySem PySem.Spec L2
open PyProof.Rows hiding St
/-! ### the caught exception -/
section
variable {g : Gx} {F F' : Hp} {ρ ρ' : List Addr} {H H' : Hp} {σ : St} {σi : List SV} {cs : List Cell}
theorem Slts.setExn {i : Nat} {e : Exn} {a : Addr} {cls : Value} {d : Option Addr} (hl : Slts g F ρ H σi σ) (r : RelEx g F ρ e cls d) : Slts g F ρ H (σi.set i (.exn e a cls d)) (σ.set i (some (.ref a))) := by
  refine ⟨by rw [List.length_set, List.length_set, hl.len], fun j s q => ?_, fun j k us ws b e1 e2 q1 q2 => ?_⟩
  · by_cases hj : i = j
    · subst hj
      have hlt : i < σi.length := by
        have := (List.getElem?_eq_some_iff.mp q).1
        rwa [List.length_set] at this
      rw [List.getElem?_set_self hlt] at q
      cases q
      rw [List.getElem?_set_self (by rw [← hl.len]; exact hlt)]
      exact ⟨rfl, r⟩
    · rw [List.getElem?_set_ne hj] at q ⊢
      exact hl.at_ j s q
  · have key : ∀ {j : Nat} {us : List IV}, (σi.set i (SV.exn e a cls d))[j]? = some (SV.own us) → i ≠ j ∧ σi[j]? = some (SV.own us) := fun {j us} z => by
      by_cases hj : i = j
      · subst hj
        have hlt : i < σi.length := by
          have := (List.getElem?_eq_some_iff.mp z).1
          rwa [List.length_set] at this
        rw [List.getElem?_set_self hlt] at z
        cases z
      · rw [List.getElem?_set_ne hj] at z
        exact ⟨hj, z⟩
    obtain ⟨n1, k1⟩ := key e1
    obtain ⟨n2, k2⟩ := key e2
    rw [List.getElem?_set_ne n1] at q1
    rw [List.getElem?_set_ne n2] at q2
    exact hl.ow j k _ _ b k1 k2 q1 q2
theorem own_setExn {i : Nat} {e : Exn} {a : Addr} {cls : Value} {d : Option Addr} {x : Addr} (h : Own (σi.set i (.exn e a cls d)) (σ.set i (some (.ref a))) x) : Own σi σ x := by
  obtain ⟨j, us, e1, e2⟩ := h
  by_cases hj : i = j
  · subst hj
    have hlt : i < σi.length := by
      have := (List.getElem?_eq_some_iff.mp e1).1
      rwa [List.length_set] at this
    rw [List.getElem?_set_self hlt] at e1
    cases e1
  · rw [List.getElem?_set_ne hj] at e1 e2
    exact ⟨j, us, e1, e2⟩
theorem Slts.setUn {i : Nat} {o : Option V} (hl : Slts g F ρ H σi σ) : Slts g F ρ H (σi.set i .un) (σ.set i o) := by
  refine ⟨by rw [List.length_set, List.length_set, hl.len], fun j s q => ?_, fun j k us ws b e1 e2 q1 q2 => ?_⟩
  · by_cases hj : i = j
    · subst hj
      have hlt : i < σi.length := by
        have := (List.getElem?_eq_some_iff.mp q).1
        rwa [List.length_set] at this
      rw [List.getElem?_set_self hlt] at q
      cases q
      trivial
    · rw [List.getElem?_set_ne hj] at q ⊢
      exact hl.at_ j s q
  · have key : ∀ {j : Nat} {us : List IV}, (σi.set i SV.un)[j]? = some (SV.own us) → i ≠ j ∧ σi[j]? = some (SV.own us) := fun {j us} z => by
      by_cases hj : i = j
      · subst hj
        have hlt : i < σi.length := by
          have := (List.getElem?_eq_some_iff.mp z).1
          rwa [List.length_set] at this
        rw [List.getElem?_set_self hlt] at z
        cases z
      · rw [List.getElem?_set_ne hj] at z
        exact ⟨hj, z⟩
    obtain ⟨n1, k1⟩ := key e1
    obtain ⟨n2, k2⟩ := key e2
    rw [List.getElem?_set_ne n1] at q1
    rw [List.getElem?_set_ne n2] at q2
    exact hl.ow j k _ _ b k1 k2 q1 q2
theorem own_setUn {i : Nat} {o : Option V} {x : Addr} (h : Own (σi.set i .un) (σ.set i o) x) : Own σi σ x := by
  obtain ⟨j, us, e1, e2⟩ := h
  by_cases hj : i = j
  · subst hj
    have hlt : i < σi.length := by
      have := (List.getElem?_eq_some_iff.mp e1).1
      rwa [List.length_set] at this
    rw [List.getElem?_set_self hlt] at e1
    cases e1
  · rw [List.getElem?_set_ne hj] at e1 e2
    exact ⟨j, us, e1, e2⟩
end
/-- e.fld, e the exception that slot i holds -/
noncomputable def eXf (a : Addr) (cls : Value) (d : Option Addr) (i : Nat) (fld : Str) : M IV := fun _ σ cs => match σ[i]? with
  | some (.exn e a' cls' d') => open Classical in if a' = a ∧ cls' = cls ∧ d' = d then (match (e.fs.zip e.xs).lookup fld with
    | some x => .ok x cs
    | none => .stuck) else .stuck
  | _ => .stuck
noncomputable def xfR (a : Addr) (cls : Value) (d : Option Addr) (fld : Str) (o : Option SV) (cs : List Cell) : Res IV := match o with
  | some (.exn e a' cls' d') => open Classical in if a' = a ∧ cls' = cls ∧ d' = d then optR ((e.fs.zip e.xs).lookup fld) cs else .stuck
  | _ => .stuck
@[simp] theorem xfR_exn {a : Addr} {cls : Value} {d : Option Addr} {fld : Str} {e : Exn} {cs : List Cell} : xfR a cls d fld (some (.exn e a cls d)) cs = optR ((e.fs.zip e.xs).lookup fld) cs := by
  unfold xfR
  exact if_pos ⟨rfl, rfl, rfl⟩
@[simp] theorem ev_eXf {a : Addr} {cls : Value} {d : Option Addr} {i n : Nat} {fld : Str} {σ : List SV} {cs : List Cell} : eXf a cls d i fld n σ cs = xfR a cls d fld σ[i]? cs := by
  unfold eXf xfR
  rcases σ[i]? with _ | (_ | _ | _ | _) <;> try rfl
  dsimp only
  congr 1
  unfold optR
  rename_i e _ _ _
  cases List.lookup fld (e.fs.zip e.xs) <;> rfl
theorem relL_lookup {g : Gx} {F : Hp} {ρ : List Addr} {fld : Str} : ∀ {fs : List Str} {xs : List IV} {vs : List V} {x : IV}, RelL g F ρ xs vs → (fs.zip xs).lookup fld = some x → ∃ v, (fs.zip vs).lookup fld = some v ∧ Rel g F ρ x v
  | [], xs, vs, x, r, h => by simp at h
  | f :: fs, [], vs, x, r, h => by simp at h
  | f :: fs, y :: xs, vs, x, r, h => by
    simp only [RelL] at r
    obtain ⟨v, vs', rfl, r1, r2⟩ := r
    simp only [List.zip_cons_cons, List.lookup_cons] at h ⊢
    cases hb : (fld == f) with
    | true =>
      rw [hb] at h
      cases h
      exact ⟨v, rfl, r1⟩
    | false =>
      rw [hb] at h
      exact relL_lookup r2 h
section
variable {X : Cx} {n k : Nat} {W : WX}
theorem je_xf {a C : Addr} {oe : Obj} {cls : Value} {d : Option Addr} {pn : List (Addr × Obj)} {x fld : Str} {i : Nat} {p pos : Pos} (T : XfC X.K C) (hno : PySem.W.findIn X.K (.ref C) fld = some none) (hc : cls = .ref C)
    (hz : Zc cls d oe) (hf : ∃ vs, oe.data = .fields vs) (hN : X.N[i]? = some x) (hv : Vis X.env.scope x) (hd : (x == ("__debug__" : Str)) = false := by decide) (hcd : (x == ("__classdict__" : Str)) = false := by decide)
    (hb : attributeBase (.Name x p) fld X.env (eval (.Name x p) X.env) = eval (.Name x p) X.env := by rfl) :
    JE (X.suite a ((a, oe) :: pn)) n W (.Attribute (.Name x p) fld pos) (eXf a cls d i fld) := by
  refine pe_imp (pe_xf T hno hz hf (pe_var (pos := p) (i := i) hN hv hd hcd) hb) fun σ H Q h => ?_
  obtain ⟨F, ρ, cs, σi, hs, hl, hp⟩ := h
  have e0 := ev_eXf (a := a) (cls := cls) (d := d) (i := i) (n := n) (fld := fld) (σ := σi) (cs := cs)
  rw [e0] at hp
  cases q : σi[i]? with
  | none => rw [q] at hp; exact hp.elim
  | some s =>
    rw [q] at hp
    cases s with
    | exn e a' cls' d' =>
      by_cases hh : a' = a ∧ cls' = cls ∧ d' = d
      · obtain ⟨rfl, rfl, rfl⟩ := hh
        rw [xfR_exn] at hp
        obtain ⟨h1, C', dd, vs, m1, m2, m3, m4, m5, m6⟩ := hl.at_ i _ q
        cases hlk : (e.fs.zip e.xs).lookup fld with
        | none => rw [hlk] at hp; exact hp.elim
        | some y =>
          rw [hlk] at hp
          obtain ⟨v, k1, k2⟩ := relL_lookup m6 hlk
          exact ⟨_, h1, rfl, hc, dd, _, v, m3, hs.fz _ _ m4, k1, hp F ρ H v StpU.refl hs k2⟩
      · have : xfR a cls d fld (some (.exn e a' cls' d')) cs = .stuck := by unfold xfR; exact if_neg hh
        rw [this] at hp; exact hp.elim
    | un => exact hp.elim
    | v _ => exact hp.elim
    | own _ => exact hp.elim
end
/-! ### try: .. except c as e: .. -/
/-- slot i is gone behind the suite -/
def hmap (i : Nat) (r : SR) : SR := match r with
  | .next σ cs => .next (σ.set i .un) cs
  | .ret x cs => .ret x cs
  | .brk σ cs => .brk (σ.set i .un) cs
  | .cnt σ cs => .cnt (σ.set i .un) cs
  | _ => .stuck
@[simp] theorem hmap_ret {i : Nat} {x : IV} {cs : List Cell} : hmap i (.ret x cs) = .ret x cs := rfl
@[simp] theorem hmap_next {i : Nat} {σ : List SV} {cs : List Cell} : hmap i (.next σ cs) = .next (σ.set i .un) cs := rfl
abbrev HM := Addr → Value → Option Addr → SM
/-- the suite, wherever the exception stands -/
noncomputable def caught (i : Nat) (hd : HM) (e : Exn) (n : Nat) (σ : List SV) (cs : List Cell) : SR :=
  open Classical in if h : ∃ r, ∀ a cls d, hmap i (hd a cls d n (σ.set i (.exn e a cls d)) cs) = r then h.choose else .stuck
theorem caught_of {i : Nat} {hd : HM} {e : Exn} {n : Nat} {σ : List SV} {cs : List Cell} {r : SR} (h : ∀ a cls d, hmap i (hd a cls d n (σ.set i (.exn e a cls d)) cs) = r) : caught i hd e n σ cs = r := by
  have hx : ∃ r, ∀ a cls d, hmap i (hd a cls d n (σ.set i (.exn e a cls d)) cs) = r := ⟨r, h⟩
  unfold caught
  rw [dif_pos hx]
  have := hx.choose_spec 0 .none none
  rw [← this, h]
theorem caught_at {i : Nat} {hd : HM} {e : Exn} {n : Nat} {σ : List SV} {cs : List Cell} (hne : caught i hd e n σ cs ≠ .stuck) (a : Addr) (cls : Value) (d : Option Addr) : hmap i (hd a cls d n (σ.set i (.exn e a cls d)) cs) = caught i hd e n σ cs := by
  unfold caught at hne ⊢
  by_cases hx : ∃ r, ∀ a cls d, hmap i (hd a cls d n (σ.set i (.exn e a cls d)) cs) = r
  · rw [dif_pos hx]
    exact hx.choose_spec a cls d
  · rw [dif_neg hx] at hne
    exact absurd rfl hne
/-- acc: which classes the clause takes -/
noncomputable def sTry (b : SM) (acc : Str → Option Bool) (i : Nat) (hd : HM) : SM := fun n σ cs => match b n σ cs with
  | .ex e σ' cs' => (match acc e.cls with
    | some true => caught i hd e n σ' cs'
    | some false => .ex e σ' cs'
    | none => .stuck)
  | r => r
section
variable {X : Cx} {n k : Nat} {W : WX}
/-- the ends behind the suite -/
abbrev Dun (i : Nat) (D : Ends) : Ends := { nx := fun σ' H' => D.nx (σ'.set i none) H', rt := D.rt, bk := fun σ' H' => D.bk (σ'.set i none) H', ct := fun σ' H' => D.ct (σ'.set i none) H' }
theorem pst_hmap {g : Gx} {U : Addr → Prop} {F : Hp} {ρ : List Addr} {H : Hp} {r : SR} {D : Ends} {i : Nat} (h : PstS g W U F ρ H (hmap i r) D) : PstS g W0 U F ρ H r (Dun i D) := by
  cases r with
  | next σi cs => exact fun F' ρ' H' σ' a b c d => h F' ρ' H' _ a b c.setUn fun x o => d x (own_setUn o)
  | ret x cs => exact fun F' ρ' H' v a b c => h F' ρ' H' v a b c
  | brk σi cs => exact fun F' ρ' H' σ' a b c d => h F' ρ' H' _ a b c.setUn fun x o => d x (own_setUn o)
  | cnt σi cs => exact fun F' ρ' H' σ' a b c d => h F' ρ' H' _ a b c.setUn fun x o => d x (own_setUn o)
  | ex e σi cs => exact h.elim
  | stuck => exact h.elim
/-- the class is one that the clause takes -/
def OkC (mg : Str → Option Value) (acc : Str → Option Bool) (cls : Value) : Prop := ∃ cn C, acc cn = some true ∧ mg cn = some (.ref C) ∧ cls = .ref C
theorem pss_and {Y : Cx} {b : List Stmt} {t : TS} {p : Prop} (h : p → PSs Y b t) : PSs Y b (fun D σ H => p ∧ t D σ H) := ⟨fun pins s σ H D I q => (h q.1).run pins s σ H D I q.2⟩
/-- what a clause makes of an exception of the body -/
theorem pst_wAs {F : Hp} {ρ : List Addr} {H : Hp} {D : Ends} {e : Exn} {σi : List SV} {cs : List Cell} {U : Addr → Prop} {c : Value} {acc : Str → Option Bool} {i : Nat} {hd : HM}
    (hacc : ∀ cn b C, acc cn = some b → X.mg cn = some (.ref C) → PySem.W.exmOne X.K (.ref C) c = some b)
    (h : PstS (gx X) W U F ρ H (match acc e.cls with | some true => caught i hd e n σi cs | some false => .ex e σi cs | none => .stuck) D) :
    PstS (gx X) (wAs X.K c i (fun a cls d D σ H => OkC X.mg acc cls ∧ tS (gx X) n W0 (hd a cls d) D σ H) W D) U F ρ H (.ex e σi cs) D := by
  intro F' ρ' H' σ' cls d st sm sl ow rx
  obtain ⟨C, dd, vs, m1, m2, m3, m4, m5, m6⟩ := rx
  cases ha : acc e.cls with
  | none => rw [ha] at h; exact h.elim
  | some b =>
    refine ⟨b, by rw [m2]; exact hacc e.cls b C ha m1, fun hb a na => ?_, fun hb => ?_⟩
    · subst hb
      rw [ha] at h
      have h : PstS (gx X) W U F ρ H (caught i hd e n σi cs) D := h
      have hne : caught i hd e n σi cs ≠ .stuck := fun z => by rw [z] at h; exact h.elim
      refine ⟨⟨e.cls, C, ha, m1, m2⟩, F', ρ', cs, σi.set i (.exn e a cls d), sm, sl.setExn ⟨C, dd, vs, m1, m2, m3, m4, m5, m6⟩, ?_⟩
      rw [← caught_at hne a cls d] at h
      exact pst_hmap (h.stp st fun x o => ow x (own_setExn o))
    · subst hb
      rw [ha] at h
      exact h F' ρ' H' σ' cls d st sm sl ow ⟨C, dd, vs, m1, m2, m3, m4, m5, m6⟩
theorem js_try {nm x : Str} {c : Value} {i : Nat} {body suite : List Stmt} {b₀ : Stmt} {np pos' pos : Pos} {b : SM} {acc : Str → Option Bool} {hd : HM} (hs : X.stack = X.env :: X.outer) (hf : X.env.frame = some X.env.locals) (hN : X.N.Nodup) (hi : X.N[i]? = some nm)
    (hln : X.env.kindOf nm = some .local) (hc : Names X x c) (tk : Takes X W) (hacc : ∀ cn b C, acc cn = some b → X.mg cn = some (.ref C) → PySem.W.exmOne X.K (.ref C) c = some b)
    (hb : ∀ (W' : WX) (pn : List (Addr × Obj)) (xe : Value → Shared → Prop), Takes (X.tr pn xe) W' → PassesOwn (model X.prog X.w) X.A X.env xe → JB (X.tr pn xe) n W' body b)
    (hsu : ∀ (a : Addr) (oe : Obj) (cls : Value) (d : Option Addr) (pn : List (Addr × Obj)), OkC X.mg acc cls → Zc cls d oe → (∃ vs, oe.data = .fields vs) → JB (X.suite a ((a, oe) :: pn)) n W0 (b₀ :: suite) (hd a cls d)) :
    JS X n W (.Try body [.ExceptHandler (some (.Name x np)) (some nm) (b₀ :: suite) pos'] [] [] pos) (sTry b acc i hd) := by
  refine ps_imp (ps_try_as (tb := fun W' => tS (gx X) n W' b) (ts := fun a cls d D σ H => OkC X.mg acc cls ∧ tS (gx X) n W0 (hd a cls d) D σ H) (Wout := W) hs hf hN hi hln hc tk hb (fun a oe cls d pn hz hfl => pss_and fun ho => hsu a oe cls d pn ho hz hfl)) fun D σ H h => ?_
  obtain ⟨F, ρ, cs, σi, sm, sl, hp⟩ := h
  refine ⟨F, ρ, cs, σi, sm, sl, ?_⟩
  unfold sTry at hp
  cases e : b n σi cs with
  | ex y σ' cs' =>
    rw [e] at hp
    exact pst_wAs hacc hp
  | next σ' cs' => rw [e] at hp; exact hp
  | ret y cs' => rw [e] at hp; exact hp
  | brk σ' cs' => rw [e] at hp; exact hp
  | cnt σ' cs' => rw [e] at hp; exact hp
  | stuck => rw [e] at hp; exact hp.elim
end
/-! ### a lambda without parameters, handed to a def -/
section
open LamX
variable {X : Cx} {pins : List (Addr × Obj)} {σ : St} {H HZ : Hp} {s s1 : Shared} {n k : Nat}
theorem lam_mk {T : List (Addr × Str)} {c P : Addr} {params : Arguments} {body : Expr} {scope : Scope} {pos : Pos} {E : Value → Shared → Prop} {Q : Value → Shared → Prop} (I : Inv X pins σ H s) (TB : TabB X.base X.mg c P) (hcode : X.env.code = .ref c)
    (hm : (P, X.env.qual ++ "<lambda>") ∈ T) (hu : ∀ p ∈ T, p.1 = P → p.2 = X.env.qual ++ "<lambda>") (hT : Tabs T H) (hdef : defaultsOf params X.env = ([], [])) (hfree : ∀ y ∈ scope.names, y.2 = .free → ∃ c, X.env.cells.lookup y.1 = some c)
    (go : ∀ (f c' : Addr) (pm ctv : Value) (H1 : Hp) (s' : Shared), Inv X pins σ H1 s' → ExtN H H1 → Tabs T H1 → (∀ b, H b ≠ none → H1 b ≠ none) →
      s'.heap.get? f = some (PySem.W.kla_obj "<lambda>" (X.env.qual ++ "<lambda>") params body scope (cloFrom X.env.cells scope.names []) pm c' ctv) → H1 f = none → f ∉ frs X.stack → H1 c' = some (CodeO c' (X.env.qual ++ "<lambda>")) → Q (.ref f) s') :
    wpAny (model X.prog X.w) X.A (eval (.Lambda params body scope pos) X.env) Q E s := by
  obtain ⟨tb, tbP, tbT, tbA⟩ := hT _ hm
  refine PySem.W.kla_eval hdef ?_
  have atP : s.heap.BuiltinsAt X.mg P := TB.bm.keeps I.bk
  have getP : s.heap.get? P = some { cls := .none, data := .fields tb } := I.hok P _ tbP
  have offF : ∀ f, s.heap.objs.size ≤ f → f ∉ frs X.stack := fun f hf z => by
    rcases List.mem_cons.mp (I.stkSub _ z) with e | e
    · have lt := I.lt
      rw [← e] at lt
      exact Nat.lt_irrefl _ (Nat.lt_of_lt_of_le lt hf)
    · exact I.nofs hf e
  cases hc : codeAmong pos tb.toList with
  | none =>
    refine PySem.W.kla_makeFunction (mg := X.mg) (c := c) (P := P) (ps := tb) (closure_ok hfree) I.ok.glob (I.mod.glob.keeps I.bk) hcode (TB.code.keeps I.bk) getP tbT hc TB.gP atP fun c' ctv h' tk hx hge hlt hrec htb => ?_
    obtain ⟨c2, oc, vs, t, e2, hoc, hdt, hv⟩ := hrec
    cases e2
    have big : s.heap.objs.size ≤ h'.objs.size := Nat.le_trans hge (Nat.le_of_lt hlt)
    have newC : H c' = none := I.hok.fresh hge
    have J1 := inv_table (t' := tk) (more := #[rawInt pos.line, rawInt pos.col, .ref c']) (h' := h'.push (PySem.W.kla_obj "<lambda>" (X.env.qual ++ "<lambda>") params body scope (cloFrom X.env.cells scope.names []) ((X.mg "__name__").getD .none) c' ctv)) I tbP
      (fun b o hb e => Heap.get?_push_of_some _ (hx b o hb e)) (Heap.get?_push_of_some _ htb) hge ⟨oc, vs, t, Heap.get?_push_of_some _ hoc, hdt, hv⟩
    have ext : ExtN H (upd (upd H P (.tbl (tb ++ #[rawInt pos.line, rawInt pos.col, .ref c']))) c' (CodeO c' (X.env.qual ++ "<lambda>"))) := fun b o e nt => by
      rw [upd_ne (ne_of_none e newC), upd_ne (fun z => nt tb (Option.some.inj (e.symm.trans (by rw [z]; exact tbP))))]
      exact e
    have asL : (tb ++ #[rawInt pos.line, rawInt pos.col, .ref c']).toList = tb.toList ++ [rawInt pos.line, rawInt pos.col, .ref c'] := by simp
    refine go h'.objs.size c' ((X.mg "__name__").getD .none) ctv _ _ J1 ext (fun p hp => ?_) (fun b hb => ?_) (Heap.get?_push_size _ rfl) ?_ (offF _ big) upd_same
    · by_cases hb : p.1 = P
      · rw [hu p hp hb, hb]
        refine ⟨_, by rw [upd_ne (ne_of_none tbP newC), upd_same], by rw [asL]; exact PySem.TriplesOk_snoc _ _ _ _ tbT, fun p' cv hcv => ?_⟩
        rw [asL] at hcv
        rcases among_app _ tbT hcv with z | z
        · obtain ⟨c0, e1, e2⟩ := tbA p' cv z
          exact ⟨c0, e1, ext _ _ e2 codeO_ne⟩
        · exact ⟨c', z, upd_same⟩
      · obtain ⟨tb', a1, a2, a3⟩ := hT p hp
        refine ⟨tb', by rw [upd_ne (ne_of_none a1 newC), upd_ne hb]; exact a1, a2, fun p' cv hcv => ?_⟩
        obtain ⟨c0, e1, e2⟩ := a3 p' cv hcv
        exact ⟨c0, e1, ext _ _ e2 codeO_ne⟩
    · by_cases h1 : b = c'
      · rw [h1, upd_same]; intro z; cases z
      · rw [upd_ne h1]
        by_cases h2 : b = P
        · rw [h2, upd_same]; intro z; cases z
        · rw [upd_ne h2]; exact hb
    · have n1 : h'.objs.size ≠ c' := Nat.ne_of_gt hlt
      have n2 : h'.objs.size ≠ P := Nat.ne_of_gt (Nat.lt_of_lt_of_le (Heap.lt_size getP) big)
      rw [upd_ne n1, upd_ne n2]
      exact I.hok.fresh big
  | some cv =>
    obtain ⟨c', e, hco⟩ := tbA pos cv hc
    subst e
    refine PySem.W.kla_makeFunctionHit (mg := X.mg) (c := c) (P := P) (ps := tb) (closure_ok hfree) I.ok.glob (I.mod.glob.keeps I.bk) hcode (TB.code.keeps I.bk) getP tbT hc atP fun ctv h' tk hx hsz => ?_
    have J1 : Inv X pins σ H { s with heap := h'.push (PySem.W.kla_obj "<lambda>" (X.env.qual ++ "<lambda>") params body scope (cloFrom X.env.cells scope.names []) ((X.mg "__name__").getD .none) c' ctv), toks := tk } := I.kept fun b o e => Heap.get?_push_of_some _ (hx b o e)
    exact go h'.objs.size c' ((X.mg "__name__").getD .none) ctv H _ J1 (ExtN.refl H) hT (fun _ h => h) (Heap.get?_push_size _ rfl) (I.hok.fresh hsz) (offF _ hsz) hco
/-- a(), in the def that got the lambda -/
theorem pe_actG {Eg : XK} {Ng : List Str} {qg : Str} {sg : Scope} {g f c' : Addr} {cdg pm ctv : Value} {params : Arguments} {body : Expr} {scope : Scope} {i : Nat} {a : Str} {pn : List (Addr × Obj)} {xe : Value → Shared → Prop} {W : WX} {m : M IV} {p1 p2 : Pos}
    (I : Inv X pins σ H s) (L : LamS X.env.scope scope) (hf : s.heap.get? f = some (PySem.W.kla_obj "<lambda>" (X.env.qual ++ "<lambda>") params body scope (cloFrom X.env.cells scope.names []) pm c' ctv)) (hfn : H f = none) (hfr : f ∉ frs X.stack)
    (hbind : bindArgs (PySem.W.kla_fn "<lambda>" (X.env.qual ++ "<lambda>") params body scope (cloFrom X.env.cells scope.names []) pm (.ref c') ctv) ⟨[], []⟩ = pure [])
    (tk : Takes ((bX X.prog X.w X.K X.mg X.base Ng qg sg g cdg X.A X.stack s H Eg).tr pn xe) W) (hr : Room (k + 1) (X.A.deeper (envOfC qg sg s.heap.objs.size g cdg))) (hgd : X.A.guards = some [])
    (hbody : ∀ (A : Around) (outer : List Env) (s : Shared) (H : Hp) (E : XK) (f c' : Addr), Room k (A.deeper (lamEnv X scope s.heap.objs.size f c')) → A.guards = some [] → JE (lamCx X A outer s H E scope f c') n (bW E) body m)
    (hN : Ng[i]? = some a) (hv : Vis sg a) (hd : (a == ("__debug__" : Str)) = false := by decide) (hcd : (a == ("__classdict__" : Str)) = false := by decide) :
    PE ((bX X.prog X.w X.K X.mg X.base Ng qg sg g cdg X.A X.stack s H Eg).tr pn xe) (.Call (.Name a p1) [] [] p2)
      (fun σZ HZ Q => σZ[i]? = some (some (.ref f)) ∧ HZ c' = some (CodeO c' (X.env.qual ++ "<lambda>")) ∧ tG (gx X) n (bW (WE W σZ)) (Rel (gx X)) m σ HZ Q) := by
  refine ⟨fun pinsZ sZ σZ HZ Q IZ h => ?_⟩
  obtain ⟨hslot, hco, ht⟩ := h
  refine wpAny_Call_Name_kw (thn ((pe_var (pos := p1) (i := i) hN hv hd hcd).run pinsZ sZ σZ HZ (fun v H1 => v = .ref f ∧ H1 = HZ) IZ ⟨.ref f, hslot, rfl, rfl⟩) fun u s1 ⟨v, H1, I1, r1, q1⟩ => ?_)
  obtain ⟨ev, eH⟩ := q1
  subst ev
  rw [eH] at I1
  obtain rfl : u = Value.ref f := r1
  have fAt : s1.heap.get? f = some (PySem.W.kla_obj "<lambda>" (X.env.qual ++ "<lambda>") params body scope (cloFrom X.env.cells scope.names []) pm c' ctv) := I1.base.keep f _ hf hfn hfr (fun z => nomatch (show f ∈ ([] : List Addr) from z))
  refine PySem.W.callWith_F0 ⟨_, _, _, _, fAt⟩ ?_
  have ungr : Un (frs X.stack) [] H HZ s.heap s1.heap := I1.base
  obtain ⟨⟨oc, vs, t, hoc, hdc, hvc⟩, _, _⟩ := I1.hok c' _ hco
  have run : codeAny (model X.prog X.w) (X.A.deeper (envOfC qg sg s.heap.objs.size g cdg)) (.call (.ref f) ⟨[], []⟩) (CR (L2.CX X.prog X.w) (envOfC qg sg s.heap.objs.size g cdg :: X.stack) X.prog X.w HZ s1 Q (WE W σZ)) s1 := by
    refine PySem.W.kla_callFunE hr.depth fAt rfl L.co L.gen rfl ⟨c', oc, vs, t, rfl, hoc, hdc, hvc⟩ ?_
    rw [hbind]
    refine wpAny_pure (wpAny_newFunctionEnv (fun y hy => (L.own y hy).2) (fun y hy => absurd hy (by simp)) (fun h₁ hns hsb => ⟨I1.nolimit.fresh _ hsb, ?_⟩) L.kind)
    show codeAny _ _ (.expr body (lamEnv X scope s1.heap.objs.size f c')) _ _
    have kp : ∀ b o, s1.heap.get? b = some o → h₁.get? b = some o := fun b o e => hsb.extBut b o (Nat.ne_of_lt (Heap.lt_size e)) (Heap.get?_push_of_some _ e)
    have J : Inv (lamCx X (X.A.deeper (envOfC qg sg s.heap.objs.size g cdg)) (envOfC qg sg s.heap.objs.size g cdg :: X.stack) s1 HZ (WE W σZ) scope f c') [] σ HZ { s1 with heap := h₁, toks := s1.toks + ([] : List (Str × Value)).length } :=
      lam_start2 I L I1.env0 hr.hd ungr hns kp
    refine PySem.W.kla_codeExpr (wpAny_mono ((hbody _ _ s1 HZ (WE W σZ) f c' (hr.deeper _) (by exact hgd)).run [] _ _ HZ Q J ht) (fun v s' hq => ?_) fun e s' hq => hq)
    obtain ⟨w', H', J', rv, q⟩ := hq
    exact ⟨w', H', J'.os, J'.bare, J'.base, J'.hok, rv, q⟩
  refine wpAny_call (codeAny_mono run fun r s' hq => ?_)
  cases r with
  | error e => exact passAt tk σZ pinsZ HZ s1 e s' I1 hq
  | ok fl =>
    cases fl with
    | ret u => exact I1.after hq
    | next => exact False.elim hq
    | brk => exact False.elim hq
    | cont => exact False.elim hq
theorem sim_ext {F : Hp} {ρ : List Addr} {cs : List Cell} {H H1 : Hp} (hs : Sim (gx X) F ρ cs H) (eN : ExtN H H1) (T1 : Tabs (lamT X.K) H1) (dm : ∀ b, H b ≠ none → H1 b ≠ none) : Sim (gx X) F ρ cs H1 ∧ Stp F ρ H F ρ H1 := by
  have same : ∀ a ∈ ρ, H1 a = H a := fun a ha => by
    cases e : H a with
    | none => exact absurd e (hs.av a ha)
    | some o => exact eN a o e fun ps z => (hs.nx a ha).1 ps (by rw [e, z])
  exact ⟨⟨fun a o h => eN a o (hs.fz a o h) fun ps z => hs.ft a ps (by rw [← z]; exact h), hs.len, hs.nd, fun a ha => by rw [same a ha]; exact hs.av a ha, hs.lv,
    fun n c a e1 e2 => by rw [same a (List.mem_of_getElem? e2)]; exact hs.ok n c a e1 e2, T1, fun a ha => by rw [same a ha]; exact hs.nx a ha, hs.ft⟩,
    ⟨fun _ _ h => h, fun a h h' => absurd h' h, ⟨[], by simp⟩, fun a h h' => absurd h h', fun a o h nt _ _ => eN a o h nt, dm⟩⟩
/-- try: return a() / except c as e: suite; of N names, e the i-th -/
noncomputable def eTold (N : Nat) (acc : Str → Option Bool) (i : Nat) (hd : HM) (m : M IV) : M IV := fun n σ cs => match m n σ cs with
  | .ok x cs' => .ok x cs'
  | .ex e cs' => (match acc e.cls with
    | some true => (caught i hd e n (List.replicate N .un) cs').fin
    | _ => .stuck)
  | .stuck => .stuck
theorem pst_fin {g : Gx} {W W' : WX} {U : Addr → Prop} {σ : St} {F : Hp} {ρ : List Addr} {H : Hp} {r : SR} {Q : VK} (h : Pst g W σ (Rel g) F ρ H r.fin Q) (hx : ∀ e σ cs, r ≠ .ex e σ cs) (hU : ∀ x, ¬ U x) : PstS g W' U F ρ H r { nx := fun _ H' => Q .non H', rt := Q } := by
  have t0 : ∀ {F' ρ' H'}, StpU U F ρ H F' ρ' H' → Stp F ρ H F' ρ' H' := fun {F' ρ' H'} t => ⟨t.fz, fun a h h' => (t.fn a h h').imp id fun z => z.elim (fun z => (hU a z).elim) .inr, t.rp, fun a h h' => (t.rn a h h').elim .inl fun z => (hU a z).elim, fun a o h nt hr _ => t.fr a o h nt hr (hU a), t.dm⟩
  cases r with
  | next σi cs => exact fun F' ρ' H' σ' a b _ _ => h F' ρ' H' .non (t0 a) b (by simp only [Rel])
  | ret x cs => exact fun F' ρ' H' v a b c => h F' ρ' H' v (t0 a) b c
  | brk σi cs => exact h.elim
  | cnt σi cs => exact h.elim
  | ex e σi cs => exact absurd rfl (hx e σi cs)
  | stuck => exact h.elim
theorem hmap_nex {i : Nat} {r : SR} {e : Exn} {σ : List SV} {cs : List Cell} : hmap i r ≠ .ex e σ cs := by cases r <;> intro z <;> cases z
theorem caught_nex {i : Nat} {hd : HM} {e e' : Exn} {n : Nat} {σ σ' : List SV} {cs cs' : List Cell} : caught i hd e n σ cs ≠ .ex e' σ' cs' := fun z => by
  have hne : caught i hd e n σ cs ≠ .stuck := fun y => by rw [y] at z; cases z
  have := caught_at hne 0 .none none
  rw [z] at this
  exact hmap_nex this
theorem un_slts {g : Gx} {F : Hp} {ρ : List Addr} {H : Hp} {σ : St} {N : Nat} (h : σ.length = N) : Slts g F ρ H (List.replicate N .un) σ := by
  have un : ∀ {j : Nat} {s : SV}, (List.replicate N SV.un)[j]? = some s → s = .un := fun {j s} e => (List.mem_replicate.mp (List.mem_of_getElem? e)).2
  exact ⟨by rw [List.length_replicate, h], fun j s e => by rw [un e]; trivial, fun j k us ws a e1 _ _ _ => by cases un e1⟩
theorem un_own {σ : St} {N : Nat} {x : Addr} : ¬ Own (List.replicate N .un) σ x := fun ⟨j, us, e, _⟩ => by cases (List.mem_replicate.mp (List.mem_of_getElem? e)).2
/-- what the suite of the def that calls is to be shown -/
def SuiteG (P : Program) (w : World) (K : PySem.W.Frag) (mg : Str → Option Value) (base : Heap) (n k : Nat) (N : List Str) (qual : Str) (scope : Scope) (acc : Str → Option Bool) (suite : List Stmt) (hd : HM) : Prop :=
  ∀ (f : Addr) (cd : Value) (A : Around) (outer : List Env) (s : Shared) (H : Hp) (E : XK) (a : Addr) (oe : Obj) (cls : Value) (d : Option Addr) (pn : List (Addr × Obj)), Room k (bX P w K mg base N qual scope f cd A outer s H E).A → (bX P w K mg base N qual scope f cd A outer s H E).A.guards = some [] → OkC mg acc cls → Zc cls d oe → (∃ vs, oe.data = .fields vs) →
    JB ((bX P w K mg base N qual scope f cd A outer s H E).suite a ((a, oe) :: pn)) n W0 suite (hd a cls d)
/-- the module's name x is a def that calls under try what it gets -/
def ToldG (P : Program) (w : World) (K : PySem.W.Frag) (mg : Str → Option Value) (base : Heap) (n k : Nat) (x : Str) (N : Nat) (acc : Str → Option Bool) (i : Nat) (hd : HM) : Prop :=
  ∃ (g : Addr) (Ng : List Str) (a ev cx : Str) (c : Value) (pg : Arguments) (sg : Scope) (dV kV doc pm cdv ct oc : Value) (an od : Option Addr) (osl : Array (Option Value)) (b₀ : Stmt) (suite : List Stmt) (p1 p2 p3 p4 p5 p6 : Pos),
    mg x = some (.ref g) ∧ PySem.W.keepIn K (.ref g) = true ∧ Ng.length = N ∧ Ng[0]? = some a ∧ Ng[i]? = some ev ∧ FnScope Ng [a] sg ∧ Vis sg a ∧ sg.names.lookup ev = some .local ∧ sg.names.lookup cx = some .globalImplicit ∧ (cx == ("__debug__" : Str)) = false ∧ mg cx = some c ∧
    (a == ("__debug__" : Str)) = false ∧ (a == ("__classdict__" : Str)) = false ∧ (∀ f : Addr, (L2.start Ng [V.ref f])[0]? = some (some (V.ref f))) ∧
    K.lookup g = some ⟨oc, od, .func (PySem.W.fnOf x x pg [.Try [.Return (some (.Call (.Name a p1) [] [] p2)) p3] [.ExceptHandler (some (.Name cx p4)) (some ev) (b₀ :: suite) p5] [] [] p6] sg dV kV doc pm an cdv ct), osl⟩ ∧ PySem.W.codeIn K cdv x = true ∧
    L2.Binds K (PySem.W.fnOf x x pg [.Try [.Return (some (.Call (.Name a p1) [] [] p2)) p3] [.ExceptHandler (some (.Name cx p4)) (some ev) (b₀ :: suite) p5] [] [] p6] sg dV kV doc pm an cdv ct) [a] [] ∧
    (∀ cn b C, acc cn = some b → mg cn = some (.ref C) → PySem.W.exmOne K (.ref C) c = some b) ∧ SuiteG P w K mg base n k Ng x sg acc (b₀ :: suite) hd
/-- x(lambda: body) -/
theorem je_lam {W : WX} {x : Str} {N i c P : Nat} {acc : Str → Option Bool} {hd : HM} {params : Arguments} {body : Expr} {scope : Scope} {p lpos pos : Pos} {m : M IV} (G : ToldG X.prog X.w X.K X.mg X.base n (k + 1) x N acc i hd) (TB : TabB X.base X.mg c P) (hcode : X.env.code = .ref c)
    (hmT : (P, X.env.qual ++ "<lambda>") ∈ lamT X.K) (hu : ∀ p ∈ lamT X.K, p.1 = P → p.2 = X.env.qual ++ "<lambda>") (hr : Room (k + 2) X.A) (hgd : X.A.guards = some []) (L : LamS X.env.scope scope) (hdef : defaultsOf params X.env = ([], []))
    (hbind : ∀ (q : Str) (cl : List (Str × Addr)) (pm cv ctv : Value), bindArgs (PySem.W.kla_fn "<lambda>" q params body scope cl pm cv ctv) ⟨[], []⟩ = pure [])
    (hbody : ∀ (A : Around) (outer : List Env) (s : Shared) (H : Hp) (E : XK) (f c' : Addr), Room k (A.deeper (lamEnv X scope s.heap.objs.size f c')) → A.guards = some [] → JE (lamCx X A outer s H E scope f c') n (bW E) body m)
    (hg : Gl X x := by rfl) (hdb : (x == ("__debug__" : Str)) = false := by decide) : JE X n W (.Call (.Name x p) [.Lambda params body scope lpos] [] pos) (eTold N acc i hd m) := by
  obtain ⟨g, Ng, a, ev, cx, cv, pg, sg, dV, kV, doc, pm, cdv, ct, oc, an, od, osl, b₀, suite, p1, p2, p3, p4, p5, p6, hm, hk, hlen, hN0, hNi, Sg, hva, hle, hgc, hdc, hmc, hd1, hd2, hst, lk, hcg, hb, hacc, hsu⟩ := G
  refine ⟨fun pins s σ H Q I h => ?_⟩
  obtain ⟨F, ρ, cs, σi, hs, hl, hp⟩ := h
  refine wpAny_Call_Name_kw (ld_glob I hg hm ?_ hdb)
  refine PySem.W.callWith_K (h₀ := X.base) I.ok.mod.kin hk ?_ (by rfl) (by rfl)
  show wpAny _ _ (spliced ((false, eval (.Lambda params body scope lpos) X.env) :: backTo pos (starEach [] X.env))) _ _ s
  refine Calls.spliced_cons (lam_mk I TB hcode hmT hu hs.tb hdef (L.has I.ok) fun f c' pm' ctv H1 s' I1 eN T1 dm1 hf hfn hfr hco => ?_)
  refine Calls.spliced_nil ⟨I1.kIn, ?_⟩
  obtain ⟨sm1, st1⟩ := sim_ext hs eN T1 dm1
  have hl1 := hl.stp st1
  have hp1 := hp.stp st1
  have rc : codeAny (model X.prog X.w) X.A (.call (.ref g) ⟨[.ref f], []⟩) (CR (L2.CX X.prog X.w) X.stack X.prog X.w H1 s' Q fun _ _ _ => False) s' := by
    refine run_ofS (N := Ng) (ps := [a]) (us := [.ref f]) (vs := [.ref f]) lk hcg Sg hr I1.env0 (hb s' [.ref f] I1.kIn rfl) (.cons rfl .nil) rfl fun hr' => ?_
    refine ⟨_, pss_one (ps_try_as (X := bX X.prog X.w X.K X.mg X.base Ng x sg g cdv X.A X.stack s' H1 fun _ _ _ => False) (c := cv) (i := i)
      (tb := fun W D σZ HZ => σZ[0]? = some (some (.ref f)) ∧ HZ c' = some (CodeO c' (X.env.qual ++ "<lambda>")) ∧ tG (gx X) n (bW (WE W σZ)) (Rel (gx X)) m σ HZ D.rt)
      (ts := fun a cls d D σ H => OkC X.mg acc cls ∧ tS (gx X) n W0 (hd a cls d) D σ H) (Wout := W0) rfl rfl Sg.nd hNi hle ⟨hgc, hdc, .inl hmc⟩ LamX.takes0 (fun W pn xe tk _ => ?_) (fun a oe cls d pn hz hfl => pss_and fun ho => hsu g cdv X.A X.stack s' H1 _ a oe cls d pn hr' (by exact hgd) ho hz hfl)), ?_⟩
    · refine ⟨fun pinsZ sZ σZ HZ D IZ h' => ?_⟩
      have hact := pe_actG (n := n) (m := m) (i := 0) (p1 := p1) (p2 := p2) I1 L hf hfn hfr (hbind _ _ _ _ _) tk hr' hgd hbody hN0 hva hd1 hd2
      exact (pss_one (ps_ret (pos := p3) hact)).run pinsZ sZ σZ HZ D IZ h'
    · refine ⟨hst f, hco, F, ρ, cs, σi, sm1, hl1, ?_⟩
      unfold eTold at hp1
      cases hmr : m n σi cs with
      | ok y cs' => rw [hmr] at hp1; exact hp1
      | stuck => rw [hmr] at hp1; exact hp1.elim
      | ex e cs' =>
        rw [hmr] at hp1
        replace hp1 : Pst (gx X) W σ (Rel (gx X)) F ρ H1 (match acc e.cls with | some true => (caught i hd e n (List.replicate N .un) cs').fin | _ => .stuck) Q := hp1
        cases ha : acc e.cls with
        | none => rw [ha] at hp1; exact hp1.elim
        | some b =>
          cases b with
          | false => rw [ha] at hp1; exact hp1.elim
          | true =>
            rw [ha] at hp1
            replace hp1 : Pst (gx X) W σ (Rel (gx X)) F ρ H1 (caught i hd e n (List.replicate N .un) cs').fin Q := hp1
            have hps := pst_fin (W' := W0) (U := fun _ => False) hp1 (fun _ _ _ => caught_nex) (fun _ z => z)
            intro F' ρ' H' cls d st sm rx
            refine pst_wAs (X := X) (W := W0) (U := fun _ => False) (i := i) (hd := hd) (acc := acc) (e := e) (σi := List.replicate N .un) (cs := cs') hacc (D := { nx := fun _ H' => Q .non H', rt := Q }) (by rw [ha]; exact hps) F' ρ' H' (L2.start Ng [.ref f]) cls d st.u sm (un_slts ?_) (fun x o => (un_own o).elim) rx
            have h0 : 0 < Ng.length := (List.getElem?_eq_some_iff.mp hN0).1
            rw [← hlen]
            unfold L2.start
            simp
            omega
  refine wpAny_call (codeAny_mono rc fun r s2 hq => ?_)
  cases r with
  | error e =>
    obtain ⟨_, _, _, _, _, _, _, _, _, _, _, _, z⟩ := hq
    exact z.elim
  | ok fl =>
    cases fl with
    | ret u => exact I1.after hq
    | next => exact False.elim hq
    | brk => exact False.elim hq
    | cont => exact False.elim hq
end
theorem xfC_of {K : PySem.W.Frag} {mg : Str → Option Value} {cn fld iq : Str} {B newId initId : String} {tl : List Value} {C fI : Addr} (T : PySem.OwnEx.ExTxt K mg cn fld iq B newId initId tl C fI) : XfC K C := ⟨T.ga, T.gg, T.exC, T.hdC⟩
theorem okC_one {mg : Str → Option Value} {acc : Str → Option Bool} {cls : Value} {cn : Str} {C : Addr} (h : ∀ c, acc c = some true → c = cn) (ho : OkC mg acc cls) (hm : mg cn = some (.ref C)) : cls = .ref C := by
  obtain ⟨c, C', h1, h2, h3⟩ := ho
  have e := h c h1
  subst e
  rw [hm] at h2
  cases h2
  exact h3
/-- an error of the class at S is what «except S» names -/
theorem exm_own {K : PySem.W.Frag} {S : Addr} (h1 : PySem.W.subIn K (.ref S) (.type "BaseException") = some true) (h2 : PySem.W.isClsIn K S = true) (h3 : PySem.W.typeIn K (.ref S) = some (.type "type")) (h4 : PySem.W.subIn K (.ref S) (.ref S) = some true) : PySem.W.exmOne K (.ref S) (.ref S) = some true := by
  have a1 : (PySem.W.subIn K (.ref S) (.type "BaseException") == some true) = true := by rw [h1] <;> rfl
  have a2 : ((PySem.W.clsIn K S).isSome && PySem.W.typeIn K (.ref S) == some (.type "type")) = true := by
    have z : (PySem.W.clsIn K S).isSome = true := h2
    rw [z, h3] <;> rfl
  show (if _ then (if _ then PySem.W.subIn K (.ref S) (.ref S) else none) else none) = some true
  rw [if_pos a1, if_pos a2]
  exact h4
theorem tabIn_of {K : PySem.W.Frag} {x name qual : Str} {f c P : Addr} {params : Arguments} {body : List Stmt} {scope : Scope} {dV kV doc pm ct oc ot : Value} {an od cod : Option Addr} {osl csl : Array (Option Value)} {vs : Array Value} (ha : PySem.W.nsIn K mainGlobals x = some (some (.ref f)))
    (hl : K.lookup f = some ⟨oc, od, .func (PySem.W.fnOf name qual params body scope dV kV doc pm an (.ref c) ct), osl⟩) (hc : K.lookup c = some ⟨ot, cod, .fields vs, csl⟩) (hp : vs[11]? = some (.ref P)) : PySem.W.tabIn K x = some (c, P) := by
  have e : (PySem.W.fnOf name qual params body scope dV kV doc pm an (.ref c) ct).code = .ref c := rfl
  unfold PySem.W.tabIn
  simp only [ha, hl, e, hc, hp]
theorem codeHd_one {K : PySem.W.Frag} {h : Heap} {c P : Addr} {o : Obj} (X : K.In h) (e : K.lookup c = some o) (q : PySem.W.codeHdIn [(c, o)] c P = true) : PySem.W.CodeHd h c P := by
  refine PySem.W.codeHd_of_K (K := [(c, o)]) (fun a u z => ?_) q
  by_cases ha : a = c
  · subst ha
    simp [List.lookup] at z
    rw [← z]
    exact X _ _ e
  · have : (a == c) = false := by simpa using ha
    simp [List.lookup, this] at z
end SL

set_option Elab.async false
set_option linter.all false
set_option autoImplicit false
set_option maxRecDepth 100000
set_option maxHeartbeats 4000000
/-! SLIsE: isinstance of the caught exception; several clauses. -/
namespace PySem
namespace OwnEx
open PySem.W PySem.Spec PySem.Calls PyProof.Rows
section
variable {prog : Program} {w : World} {A : Around} {E : Value → Shared → Prop} {s : Shared} {K : Frag} {x D : Addr} {ox ow : Obj}
/-- what the class at D says of __class__ -/
structure IsC (K : Frag) (D : Addr) : Prop where
  hg : findIn K (.ref D) "__getattribute__" = some (some (.builtin "BaseException.__getattribute__"))
  hk : findIn K (.ref D) "__getattr__" = some none
  hs : subIn K (.ref D) (.type "BaseException") = some true
  hd : hasDictIn K D = true
  ha : findIn K (.ref D) "__class__" = some (some (.builtin "object.__class__"))
  hn : specialIn K (.builtin "object.__class__") "__get__" = some (some (.builtin "getset_descriptor.__get__"))
  ht : takesIn K (.builtin "object.__class__") = some true
  hm : mroIn K D (.type "object") = some true
theorem cls_asked {Q : Option Value → Shared → Prop} (C : IsC K D) (KX : K.In s.heap) (J : InstAt s.heap x ox D (some ow)) (go : Q (some (.ref D)) { s with toks := s.toks + 1 }) : wpAny (model prog w) A (getAttr? (.ref x) "__class__") Q E s := by
  have fnd : findObj K D (some ow) "__class__" = some (.bind (.builtin "getset_descriptor.__get__") (.builtin "object.__class__")) := findObj_data (by obtain ⟨cd, hc, _⟩ := any_some C.hd; rw [hc]; rfl) C.ha C.hn C.ht
  obtain ⟨hp, g, d, t, os⟩ := s
  have lt := J.type (M := model prog w)
  have lg := looks_findIn (M := model prog w) KX C.hg
  have lk := looks_findIn (M := model prog w) KX C.hk
  have lo := looks_find (M := model prog w) KX J fnd
  have isB : Looks (model prog w) hp (isInstance (.ref x) (.type "BaseException")) true := lt.andThen (looks_subIn KX C.hs)
  have z0 : (false && onTheHeap (Value.builtin "BaseException.__getattribute__")) = false := rfl
  have z2 : (Value.builtin "BaseException.__getattribute__" == Value.builtin "object.__getattribute__") = false := by decide +kernel
  have z1 : (onTheHeap (Value.ref D) && Value.builtin "BaseException.__getattribute__" == Value.builtin "object.__getattribute__") = false := by rw [z2]; rfl
  unfold getAttr? getAttrBy? getAttrBy
  refine wpAny_bind (wpAny_mkText (wpAny_bind (wpAny_attempt (wpAny_holding (wpAny_bind (lt.at (wpAny_bind (lg.at ?_))))))))
  show wpAny _ _ (if (onTheHeap (Value.ref D) && Value.builtin "BaseException.__getattribute__" == Value.builtin "object.__getattribute__") = true then _ else _) _ _ _
  rw [z1, if_neg Bool.false_ne_true]
  unfold getAttrByItsOwn hookBefore
  refine wpAny_bind ?_
  rw [if_pos (show onTheHeap (Value.ref D) = true from rfl)]
  refine lk.at ?_
  refine wpAny_bind (wpAny_attempt (wpAny_holding ?_))
  unfold callGetattribute
  rw [z0, if_neg Bool.false_ne_true]
  unfold boundAndCalled
  rw [PySem.F.excAttr_ValueError.ga.bind (.ref x)]
  refine wpAny_bind (wpAny_pure ?_)
  show wpAny _ _ (call (.builtin "BaseException.__getattribute__") [.ref x, .str "__class__" t]) _ _ _
  refine wpAny_call (codeAny_call_builtin PySem.F.excAttr_ValueError.ga.plain PySem.F.entry_bexc_ga ?_)
  refine @check_slot (model prog w) _ _ ⟨hp, g, d, t + 1, os⟩ "BaseException.__getattribute__" "BaseException" "__getattribute__" (.ref x) [.str "__class__" t] [] _ (by decide +kernel) (by decide +kernel) isB (PySem.F.args_bexc_ga (.ref x) (.str "__class__" t)) ?_
  unfold Builtin.«object.__getattribute__»
  refine wpAny_bind (wpAny_of_eq (a := ((Value.ref x : Value), [Value.str "__class__" t])) (by first | rfl | (simp only [slotArgs]; rfl)) ?_)
  refine wpAny_bind (wpAny_pure (wpAny_bind (lt.at (wpAny_bind (lo.at ?_)))))
  show wpAny _ _ (holding [Value.builtin "object.__class__"] (call (.builtin "getset_descriptor.__get__") [.builtin "object.__class__", .ref x, .ref D]) >>= ret) _ _ _
  refine wpAny_bind (wpAny_holding (wpAny_call (class_get (s := ⟨hp, g, d, t + 1, os⟩) (ox := ox) (od := some ow) KX J C.hm ?_)))
  refine wpAny_pure ?_
  show wpAny _ _ (handedOut (.ref D)) _ _ _
  rw [handedOut_of (v := .ref D) rfl]
  first
    | exact wpAny_pure (wpAny_pure go)
    | exact wpAny_pure go
    | exact wpAny_pure (wpAny_bind (wpAny_pure (wpAny_pure go)))
theorem kitx_own (C : IsC K D) : KitX K (.ref x) (.ref D) (fun h => ∃ ow, InstAt h x ox D (some ow)) where
  ty := fun _ _ _ I => by obtain ⟨ow, I⟩ := I; exact I.type
  it := fun _ _ KX _ => by
    obtain ⟨cd, hc, _⟩ := any_some C.hd
    unfold clsIn at hc
    split at hc
    · rename_i c1 d1 cd1 sl1 ho
      intro A1 Q1 E1 s1 k q
      unfold isType loadHead
      exact wpAny_bind (wpAny_loadPart (k _ _ (KX _ _ ho)) (wpAny_pure q))
    · cases hc
  ne := fun h tp dd its n sl KX htp => by
    obtain ⟨cd, hc, _⟩ := any_some C.hd
    refine Bool.eq_false_iff.mpr fun q => ?_
    have e : D = tp := Value.ref.inj (beq_iff_eq.mp q)
    subst e
    unfold clsIn at hc
    split at hc
    · rename_i c1 d1 cd1 sl1 ho
      have z := (KX _ _ ho).symm.trans htp
      cases z
    · cases hc
  ca := fun KX I k => by obtain ⟨ow, I⟩ := I; exact cls_asked C KX I k
end
end OwnEx
end PySem
namespace SL
open PySem PySem.Spec L2
open PyProof.Rows hiding St
open PySem.OwnEx (IsC kitx_own)
/-- isinstance(e, c), e the exception that the suite holds -/
def rIsX (K : PySem.W.Frag) (D a dd : Addr) : List V → Hp → VK → Prop := fun xs H Q => ∃ (c : V) (cv : Value) (b : Bool) (fs : List (Str × V)), xs = [.ref a, c] ∧ (∀ u, RelV c u → u = cv) ∧ H dd = some (.xd fs) ∧ PySem.W.kitOne K (.ref D) cv = some b ∧ Q (.bl b) H
theorem call_isX {X : Cx} {a D dd : Addr} {oe : Obj} {pn : List (Addr × Obj)} (C : IsC X.K D) (hz : Zc (.ref D) (some dd) oe) (hf : ∃ vs, oe.data = .fields vs) : CallR (X.suite a ((a, oe) :: pn)) (.builtin "isinstance") (rIsX X.K D a dd) := by
  intro pins s σ H xs us Q I r h
  obtain ⟨c, cv, b, fs, rfl, hcv, hdd, e, q⟩ := h
  cases r with
  | cons rx rr =>
    cases rr with
    | cons rt rr =>
      cases rr
      cases rx
      have ec := hcv _ rt
      subst ec
      obtain ⟨hget, _⟩ := I.pin (a, oe) (List.mem_append.mpr (.inl List.mem_cons_self))
      obtain ⟨vs, hv⟩ := hf
      have hx : ObjOk X.prog X.w H s.heap dd (.xd fs) := I.hok dd _ hdd
      obtain ⟨mA, hns, hr⟩ := hx
      obtain ⟨od, ho, hl⟩ := lookIn_ns hns
      have J : PySem.W.InstAt s.heap a oe D (some od) := ⟨hget, hz.1, by unfold PySem.W.notCls; rw [hv] <;> rfl, by rw [hz.2]; exact ho⟩
      exact PySem.W.kia_one (kitx_own C) I.kIn ⟨_, J⟩ e (fun z => nomatch z) fun tk => ⟨.bl b, H, I.kept (t' := tk) fun _ _ z => z, rfl, q⟩
/-- its answer b is known by its class -/
noncomputable def eIsX (a : Addr) (cls : Value) (d : Option Addr) (i : Nat) (b : Bool) : M IV := fun _ σ cs => match σ[i]? with
  | some (.exn e a' cls' d') => open Classical in if a' = a ∧ cls' = cls ∧ d' = d then .ok (.bl b) cs else .stuck
  | _ => .stuck
noncomputable def isR (a : Addr) (cls : Value) (d : Option Addr) (b : Bool) (o : Option SV) (cs : List Cell) : Res IV := match o with
  | some (.exn e a' cls' d') => open Classical in if a' = a ∧ cls' = cls ∧ d' = d then .ok (.bl b) cs else .stuck
  | _ => .stuck
@[simp] theorem isR_exn {a : Addr} {cls : Value} {d : Option Addr} {b : Bool} {e : Exn} {cs : List Cell} : isR a cls d b (some (.exn e a cls d)) cs = .ok (.bl b) cs := by
  unfold isR
  exact if_pos ⟨rfl, rfl, rfl⟩
@[simp] theorem ev_eIsX {a : Addr} {cls : Value} {d : Option Addr} {i n : Nat} {b : Bool} {σ : List SV} {cs : List Cell} : eIsX a cls d i b n σ cs = isR a cls d b σ[i]? cs := id rfl
section
variable {X : Cx} {n k : Nat} {W : WX}
theorem je_isX {a D : Addr} {oe : Obj} {cls : Value} {d : Option Addr} {pn : List (Addr × Obj)} {x : Str} {i : Nat} {ec : Expr} {c : V} {cv : Value} {b : Bool} {p p2 pos : Pos} (C : IsC X.K D) (hc : cls = .ref D) (hz : Zc cls d oe) (hf : ∃ vs, oe.data = .fields vs)
    (hN : X.N[i]? = some x) (hv : Vis X.env.scope x) (pc : PE (X.suite a ((a, oe) :: pn)) ec (tC c)) (un : ∀ u, RelV c u → u = cv) (hk : PySem.W.kitOne X.K (.ref D) cv = some b) (hm : X.mg "isinstance" = none)
    (hst1 : starEach [.Name x p2, ec] X.env = (false, eval (.Name x p2) X.env) :: starEach [ec] X.env) (hst2 : starEach [ec] X.env = (false, eval ec X.env) :: starEach [] X.env) (hg : Gl X "isinstance" := by rfl) (hd : (x == ("__debug__" : Str)) = false := by decide) (hcd : (x == ("__classdict__" : Str)) = false := by decide)
    (hpl : (backTo pos (starEach [ec] X.env)).any (·.1) = false := by rfl) :
    JE (X.suite a ((a, oe) :: pn)) n W (.Call (.Name "isinstance" p) [.Name x p2, ec] [] pos) (eIsX a cls d i b) := by
  subst hc
  cases d with
  | none =>
    refine ⟨fun pins s σ H Q I h => ?_⟩
    obtain ⟨F, ρ, cs, σi, hs, hl, hp⟩ := h
    rw [ev_eIsX] at hp
    cases q : σi[i]? with
    | none => rw [q] at hp; exact hp.elim
    | some sv =>
      rw [q] at hp
      cases sv with
      | exn e a' cls' d' =>
        by_cases hh : a' = a ∧ cls' = .ref D ∧ d' = none
        · obtain ⟨rfl, rfl, rfl⟩ := hh
          obtain ⟨_, _, _, _, _, _, z, _⟩ := hl.at_ i _ q
          cases z
        · have : isR a (.ref D) none b (some (.exn e a' cls' d')) cs = .stuck := by unfold isR; exact if_neg hh
          rw [this] at hp; exact hp.elim
      | un => exact hp.elim
      | v _ => exact hp.elim
      | own _ => exact hp.elim
  | some dd =>
    refine pe_imp (pe_callB (call_isX C hz hf) hg hm bt_isinstance (pa_cons (pe_var (pos := p2) (i := i) hN hv hd hcd) (pa_cons pc pa_nil (by exact hst2)) (by exact hst1)) (by decide) (by decide) (by exact hst1) (by exact hpl)) fun σ H Q h => ?_
    obtain ⟨F, ρ, cs, σi, hs, hl, hp⟩ := h
    rw [ev_eIsX] at hp
    cases q : σi[i]? with
    | none => rw [q] at hp; exact hp.elim
    | some sv =>
      rw [q] at hp
      cases sv with
      | exn e a' cls' d' =>
        by_cases hh : a' = a ∧ cls' = .ref D ∧ d' = some dd
        · obtain ⟨rfl, rfl, rfl⟩ := hh
          rw [isR_exn] at hp
          obtain ⟨h1, C', dd', vs, m1, m2, m3, m4, m5, m6⟩ := hl.at_ i _ q
          cases m3
          exact ⟨_, h1, c, cv, b, _, rfl, un, hs.fz _ _ m4, hk, hp F ρ H _ StpU.refl hs (by simp only [Rel])⟩
        · have : isR a (.ref D) (some dd) b (some (.exn e a' cls' d')) cs = .stuck := by unfold isR; exact if_neg hh
          rw [this] at hp; exact hp.elim
      | un => exact hp.elim
      | v _ => exact hp.elim
      | own _ => exact hp.elim
end
/-- str(i) -/
def fStr : List Cell → List IV → Option IV
  | _, [.int i] => if i.natAbs.log2 < 1920 then some (.str (Str.ofString (toString i))) else none
  | _, _ => none
theorem cj_str {X : Cx} : CallR X (.type "str") (rCJ (gx X) fStr) := by
  intro pins s σ H vs us Q I r h
  obtain ⟨F, ρ, cs, xs, z, hs, hx, hf, q⟩ := h
  unfold fStr at hf
  split at hf
  · split at hf
    · rename_i hlog
      cases hf
      obtain ⟨v, rfl, h1⟩ := relL1 hx
      rw [relInt h1] at r
      exact call_str_int pins s σ H _ us Q I r ⟨_, rfl, hlog, q F ρ H _ StpU.refl hs (by simp only [Rel])⟩
    · cases hf
  · cases hf
end SL

set_option Elab.async false
set_option linter.all false
set_option autoImplicit false
set_option maxRecDepth 100000
set_option maxHeartbeats 4000000
/-! SLTry2: several clauses, each with a name. -/
namespace SL
open PySem PySem.Spec L2
open PyProof.Rows hiding St
abbrev Tsuite := Addr → Value → Option Addr → TS
/-- what the clauses wish of an exception of the body, one after the other -/
def wAll (K : PySem.W.Frag) (Wo : WX) (D : Ends) : List (Value × Nat × Tsuite) → WX
  | [] => Wo
  | (c, i, ts) :: r => fun cls d σ H => ∃ b, PySem.W.exmOne K cls c = some b ∧ (b = true → ∀ a, H a = none → ts a cls d (Dun i D) (σ.set i (some (.ref a))) H) ∧ (b = false → wAll K Wo D r cls d σ H)
inductive ClsG (X : Cx) : List ExceptHandler → List (Value × Nat × Tsuite) → Prop
  | nil : ClsG X [] []
  | cons {x nm : Str} {c : Value} {i : Nat} {ts : Tsuite} {b0 : Stmt} {sb : List Stmt} {p1 p2 : Pos} {hs : List ExceptHandler} {l : List (Value × Nat × Tsuite)} (hi : X.N[i]? = some nm) (hl : X.env.kindOf nm = some .local) (hc : Names X x c)
      (hsu : ∀ (a : Addr) (oe : Obj) (cls : Value) (d : Option Addr) (pn : List (Addr × Obj)), Zc cls d oe → (∃ vs, oe.data = .fields vs) → PSs (X.suite a ((a, oe) :: pn)) (b0 :: sb) (ts a cls d)) (r : ClsG X hs l) :
      ClsG X (.ExceptHandler (some (.Name x p1)) (some nm) (b0 :: sb) p2 :: hs) ((c, i, ts) :: l)
section
variable {X : Cx} {body : List Stmt} {h0 : ExceptHandler} {hl : List ExceptHandler} {l : List (Value × Nat × Tsuite)} {pos : Pos} {tb : WX → TS} {Wo : WX}
theorem ps_try_all (hs : X.stack = X.env :: X.outer) (hf : X.env.frame = some X.env.locals) (hN : X.N.Nodup) (tk : Takes X Wo)
    (hb : ∀ (W : WX) (pn : List (Addr × Obj)) (xe : Value → Shared → Prop), Takes (X.tr pn xe) W → PassesOwn (model X.prog X.w) X.A X.env xe → PSs (X.tr pn xe) body (tb W))
    (hh : ClsG X (h0 :: hl) l) : PS X (.Try body (h0 :: hl) [] [] pos) (fun D σ H => tb (wAll X.K Wo D l) D σ H) := by
  refine ⟨fun pins s σ H D I hyp => ?_⟩
  have okX := I.ok
  have frm : X.A.frames = some (X.env :: X.outer) := by rw [okX.frames, hs]
  refine wpAny_Try_except ?_
  refine wpAny_mono ((hb (wAll X.K Wo D l) (X.pn ++ pins) (fun e t1 => wpAny (model X.prog X.w) X.A (noteFrame e X.env) (fun _ t2 => wpAny (model X.prog X.w) X.A (setFlight e none) (fun _ t3 =>
    wpAny (model X.prog X.w) X.A (handleBy e X.env (h0 :: hl)) (SP X pins D) X.xe t3) X.xe t2) X.xe t1) (fun u s' xx => ?_) PassesOwn.looking).run [] s σ H D (I.toTry _) hyp) (fun f s1 hsp => ?_) (fun e s1 he => he)
  · -- the catch
    obtain ⟨a, B, sI, pin1, σ1, H1, cls, d, rfl, J0, nb, up, sky, na, os, ag, w⟩ := xx
    have J : Inv X pins σ1 H1 sI := J0.ofTry okX
    have sky1 : Sky B (X.env :: X.outer) a (Zc cls d) X.env.locals s'.heap := by rw [← hs]; exact sky
    show wpAny (model X.prog X.w) X.A (noteFrame (.ref a) X.env) _ _ _
    refine Sky.land Zc.steady frm hf sky1 fun g3 fl3 up3 => ?_
    have J3 : Inv X pins σ1 H1 { s' with heap := g3 } := J.landed nb fl3.1 (up.trans up3) os ag
    obtain ⟨oe3, vs3, he3, hz3, hd3⟩ := fl3.there
    have offF : ∀ {h : Heap} {o : Obj} {vs : Array Value}, h.FunFrames B (X.env :: X.outer) → h.get? a = some o → o.data = .fields vs → a ∉ frs (X.env :: X.outer) := fun {h o vs} ff e dd hm => by
      obtain ⟨_, o', e', nf⟩ := ff.mem hm
      rw [e] at e'; cases e'
      exact nf _ dd
    have off := offF fl3.2.2.1 he3 hd3
    have offL : a ≠ X.env.locals := fun z => off (List.mem_filterMap.mpr ⟨X.env, List.mem_cons_self, by rw [hf, z]⟩)
    have offS : a ∉ X.fs := fun hm => by
      obtain ⟨e, he, q⟩ := List.mem_filterMap.mp hm
      exact off (List.mem_filterMap.mpr ⟨e, List.mem_cons_of_mem _ he, q⟩)
    have S3 := J3.suite he3 hd3 na offL offS
    have walk : ∀ {hs1 : List ExceptHandler} {l1 : List (Value × Nat × Tsuite)}, ClsG X hs1 l1 → wAll X.K Wo D l1 cls d σ1 H1 → wpAny (model X.prog X.w) X.A (handleBy (.ref a) X.env hs1) (SP X pins D) X.xe { s' with heap := g3 } := by
      intro hs1 l1 hk
      induction hk with
      | nil =>
        intro w
        refine wpAny_handleBy_nil ?_
        obtain ⟨k1, k2, k3, oe, vs, T, oT, ts', he, hz, hd, hf1, hr⟩ := id fl3
        unfold PySem.passOn
        refine wpAny_bind (wpAny_field he hd hf1 ?_)
        rw [if_neg (show ¬ ((Value.ref T == Value.none) = true) from by simp)]
        have fin : wpAny (model X.prog X.w) X.A (setFlight (.ref a) X.env.frame) (fun _ t4 => wpAny (model X.prog X.w) X.A (throw (.ref a) : Sem Flow) (SP X pins D) X.xe t4) X.xe { s' with heap := g3 } := by
          rw [hf]
          refine HandSPX.setFlight_upZ fl3 fun g4 hh4 up4 => wpAny_throw (tk _ _ ?_)
          exact ⟨a, B, sI, pins, σ1, H1, cls, d, rfl, J, nb, (up.trans up3).trans up4, .inr (.inr (by rw [hs]; exact hh4)), na, os, ag, w⟩
        first
          | exact wpAny_bind (wpAny_pure (wpAny_bind fin))
          | exact wpAny_bind fin
      | @cons x nm c i ts b0 sb p1 p2 hs2 l2 hi hln hc hsu r ih =>
        intro w
        obtain ⟨b, hb1, hyes, hno⟩ := w
        refine wpAny_handleBy_cons (codeAny_handlers_test ?_) (by intro q; cases q)
        have LT : PySem.W.Looks (model X.prog X.w) g3 (typeOf (.ref a)) cls := fun A Q E s k q => wpAny_typeOf_ref (k _ _ he3) (by rw [hz3.1]; exact q)
        have LM := PySem.W.exm_one (M := model X.prog X.w) (J3.kIn) LT hb1
        have asked : ∀ {Q : Value → Shared → Prop} {E : Value → Shared → Prop}, Q c { s' with heap := g3 } → wpAny (model X.prog X.w) (X.A.mark (some (.ref a))) (eval (.Name x p1) X.env) Q E { s' with heap := g3 } := fun {Q E} q => by
          obtain ⟨hg, hdb, hm | ⟨hm, hv, hnn⟩⟩ := hc
          · exact ld_glob (X := X.suite a ((a, oe3) :: (X.pn ++ pins))) S3 hg hm q hdb
          · exact ld_blt (X := X.suite a ((a, oe3) :: (X.pn ++ pins))) S3 hg hm hv q hnn hdb
        refine asked (LM.here ?_)
        cases b with
        | true =>
          refine codeAny_handlers_suite_as ?_
          refine HandSPX.lands_againZ fl3 fun g4 fl4 up4 => ?_
          have J4 : Inv X pins σ1 H1 { s' with heap := g4 } := J.landed nb fl4.1 ((up.trans up3).trans up4) os ag
          obtain ⟨oe4, vs4, he4, hz4, hd4⟩ := fl4.there
          have S4 := J4.suite he4 hd4 na offL offS
          refine store_ok (X := X.suite a ((a, oe4) :: (X.pn ++ pins))) (v := .ref a) S4 hN hi (.inl hln) rfl (fun s5 S5 => ?_) (.inr hln)
          refine wpAny_mono ((hsu a oe4 cls d (X.pn ++ pins) hz4 ⟨_, hd4⟩).run [] s5 _ H1 _ S5 (hyes rfl a na)) (fun f s6 hsp => ?_) (fun _ _ z => False.elim z)
          have gone : ∀ {σ6 : St} {H6 : Hp} {Q : Shared → Prop}, Inv (X.suite a ((a, oe4) :: (X.pn ++ pins))) [] σ6 H6 s6 → (∀ s7, Inv X pins (σ6.set i none) H6 s7 → Q s7) →
              wpAny (model X.prog X.w) X.A (do bindName X.env nm .none; unbindBehindTheSuite X.env nm p2) (fun _ s7 => Q s7) X.xe s6 := fun {σ6 H6 Q} S6 hq => gone_ok (S6.unsuite okX) hN hi hln hq
          cases f with
          | next =>
            obtain ⟨σ6, H6, S6, q6⟩ := hsp
            exact gone S6 fun s7 J7 => ⟨_, _, J7, q6⟩
          | brk =>
            obtain ⟨σ6, H6, S6, q6⟩ := hsp
            exact gone S6 fun s7 J7 => ⟨_, _, J7, q6⟩
          | cont =>
            obtain ⟨σ6, H6, S6, q6⟩ := hsp
            exact gone S6 fun s7 J7 => ⟨_, _, J7, q6⟩
          | ret u =>
            obtain ⟨v6, σ6, H6, S6, r6, q6⟩ := hsp
            exact gone S6 fun s7 J7 => ⟨_, _, _, J7, r6, q6⟩
        | false =>
          show wpAny _ X.A (handleBy (.ref a) X.env hs2) _ _ _
          exact ih (hno rfl)
    exact walk hh w
  · cases f with
    | next =>
      obtain ⟨σ1, H1, J1, q⟩ := hsp
      exact wpAny_execs_nil ⟨σ1, H1, J1.ofTry okX, q⟩
    | brk =>
      obtain ⟨σ1, H1, J1, q⟩ := hsp
      exact ⟨σ1, H1, J1.ofTry okX, q⟩
    | cont =>
      obtain ⟨σ1, H1, J1, q⟩ := hsp
      exact ⟨σ1, H1, J1.ofTry okX, q⟩
    | ret u =>
      obtain ⟨v, σ1, H1, J1, r, q⟩ := hsp
      exact ⟨v, σ1, H1, J1.ofTry okX, r, q⟩
end
/-- a clause's mirror: the classes that it takes, the name's slot, the suite -/
structure Cl where
  acc : Str → Option Bool
  i : Nat
  hd : HM
noncomputable def caughtL : List Cl → Exn → Nat → List SV → List Cell → SR
  | [], e, _, σ, cs => .ex e σ cs
  | c :: r, e, n, σ, cs => match c.acc e.cls with
    | some true => caught c.i c.hd e n σ cs
    | some false => caughtL r e n σ cs
    | none => .stuck
noncomputable def sTryL (b : SM) (cl : List Cl) : SM := fun n σ cs => match b n σ cs with
  | .ex e σ' cs' => caughtL cl e n σ' cs'
  | r => r
def SR.finS (r : SR) : Res IV := match r with
  | .next _ cs => .ok .non cs
  | .ret x cs => .ok x cs
  | _ => .stuck
noncomputable def eToldL (N : Nat) (cl : List Cl) (m : M IV) : M IV := fun n σ cs => match m n σ cs with
  | .ok x cs' => .ok x cs'
  | .ex e cs' => (caughtL cl e n (List.replicate N .un) cs').finS
  | .stuck => .stuck
theorem caughtL_at {c : Cl} {r : List Cl} {e : Exn} {n : Nat} {σ : List SV} {cs : List Cell} {x : SR} (ha : c.acc e.cls = some true) (h : ∀ a cls d, hmap c.i (c.hd a cls d n (σ.set c.i (.exn e a cls d)) cs) = x) : caughtL (c :: r) e n σ cs = x := by
  unfold caughtL
  rw [ha]
  exact caught_of h
theorem caughtL_on {c : Cl} {r : List Cl} {e : Exn} {n : Nat} {σ : List SV} {cs : List Cell} (ha : c.acc e.cls = some false) : caughtL (c :: r) e n σ cs = caughtL r e n σ cs := by
  rw [caughtL, ha]
theorem toldL_ok {n : Nat} {σ : List SV} {cs cs' : List Cell} {N : Nat} {cl : List Cl} {m : M IV} {x : IV} (h : m n σ cs = .ok x cs') : eToldL N cl m n σ cs = .ok x cs' := by
  unfold eToldL; rw [h]
theorem toldL_ex {n : Nat} {σ : List SV} {cs cs' cs'' : List Cell} {N : Nat} {cl : List Cl} {m : M IV} {x : IV} {e : Exn} (h : m n σ cs = .ex e cs') (hh : caughtL cl e n (List.replicate N .un) cs' = .ret x cs'') : eToldL N cl m n σ cs = .ok x cs'' := by
  unfold eToldL; rw [h]
  dsimp only
  rw [hh]; rfl
section
variable {X : Cx} {n k : Nat} {W : WX}
def tss (X : Cx) (n : Nat) (L : List (Value × Cl)) : List (Value × Nat × Tsuite) := L.map fun p => (p.1, p.2.i, fun a cls d D σ H => OkC X.mg p.2.acc cls ∧ tS (gx X) n W0 (p.2.hd a cls d) D σ H)
theorem pst_wAll {F : Hp} {ρ : List Addr} {H : Hp} {D : Ends} {e : Exn} {σi : List SV} {cs : List Cell} {U : Addr → Prop} : ∀ {L : List (Value × Cl)}, (∀ p ∈ L, ∀ cn b C, p.2.acc cn = some b → X.mg cn = some (.ref C) → PySem.W.exmOne X.K (.ref C) p.1 = some b) →
    PstS (gx X) W U F ρ H (caughtL (L.map (·.2)) e n σi cs) D → PstS (gx X) (wAll X.K W D (tss X n L)) U F ρ H (.ex e σi cs) D
  | [], _, h => h
  | p :: L, hacc, h => by
    intro F' ρ' H' σ' cls d st sm sl ow rx
    obtain ⟨C, dd, vs, m1, m2, m3, m4, m5, m6⟩ := rx
    have h : PstS (gx X) W U F ρ H (match p.2.acc e.cls with | some true => caught p.2.i p.2.hd e n σi cs | some false => caughtL (L.map (·.2)) e n σi cs | none => .stuck) D := h
    cases ha : p.2.acc e.cls with
    | none => rw [ha] at h; exact h.elim
    | some b =>
      refine ⟨b, by rw [m2]; exact hacc p (by simp) e.cls b C ha m1, fun hb a na => ?_, fun hb => ?_⟩
      · subst hb
        rw [ha] at h
        have h : PstS (gx X) W U F ρ H (caught p.2.i p.2.hd e n σi cs) D := h
        have hne : caught p.2.i p.2.hd e n σi cs ≠ .stuck := fun z => by rw [z] at h; exact h.elim
        refine ⟨⟨e.cls, C, ha, m1, m2⟩, F', ρ', cs, σi.set p.2.i (.exn e a cls d), sm, sl.setExn ⟨C, dd, vs, m1, m2, m3, m4, m5, m6⟩, ?_⟩
        rw [← caught_at hne a cls d] at h
        exact pst_hmap (h.stp st fun x o => ow x (own_setExn o))
      · subst hb
        rw [ha] at h
        exact pst_wAll (L := L) (fun q hq => hacc q (by simp [hq])) h F' ρ' H' σ' cls d st sm sl ow ⟨C, dd, vs, m1, m2, m3, m4, m5, m6⟩
theorem js_tryL {L : List (Value × Cl)} {body : List Stmt} {h0 : ExceptHandler} {hl : List ExceptHandler} {pos : Pos} {b : SM} {cl : List Cl} (hs : X.stack = X.env :: X.outer) (hf : X.env.frame = some X.env.locals) (hN : X.N.Nodup) (tk : Takes X W)
    (hacc : ∀ p ∈ L, ∀ cn b C, p.2.acc cn = some b → X.mg cn = some (.ref C) → PySem.W.exmOne X.K (.ref C) p.1 = some b) (hcl : L.map (·.2) = cl)
    (hb : ∀ (W' : WX) (pn : List (Addr × Obj)) (xe : Value → Shared → Prop), Takes (X.tr pn xe) W' → PassesOwn (model X.prog X.w) X.A X.env xe → JB (X.tr pn xe) n W' body b) (hh : ClsG X (h0 :: hl) (tss X n L)) : JS X n W (.Try body (h0 :: hl) [] [] pos) (sTryL b cl) := by
  subst hcl
  refine ps_imp (ps_try_all (tb := fun W' => tS (gx X) n W' b) (Wo := W) hs hf hN tk hb hh) fun D σ H h => ?_
  obtain ⟨F, ρ, cs, σi, sm, sl, hp⟩ := h
  refine ⟨F, ρ, cs, σi, sm, sl, ?_⟩
  unfold sTryL at hp
  cases e : b n σi cs with
  | ex y σ' cs' =>
    rw [e] at hp
    exact pst_wAll hacc hp
  | next σ' cs' => rw [e] at hp; exact hp
  | ret y cs' => rw [e] at hp; exact hp
  | brk σ' cs' => rw [e] at hp; exact hp
  | cnt σ' cs' => rw [e] at hp; exact hp
  | stuck => rw [e] at hp; exact hp.elim
end
/-- what the suites of the def that calls are to be shown -/
def SuiteL (P : Program) (w : World) (K : PySem.W.Frag) (mg : Str → Option Value) (base : Heap) (n k : Nat) (N : List Str) (qual : Str) (scope : Scope) (hs : List ExceptHandler) (L : List (Value × Cl)) : Prop :=
  ∀ (f : Addr) (cd : Value) (A : Around) (outer : List Env) (s : Shared) (H : Hp) (E : XK), Room k (bX P w K mg base N qual scope f cd A outer s H E).A → (bX P w K mg base N qual scope f cd A outer s H E).A.guards = some [] →
    ClsG (bX P w K mg base N qual scope f cd A outer s H E) hs (tss (bX P w K mg base N qual scope f cd A outer s H E) n L)
def ToldL (P : Program) (w : World) (K : PySem.W.Frag) (mg : Str → Option Value) (base : Heap) (n k : Nat) (x : Str) (N : Nat) (cl : List Cl) : Prop :=
  ∃ (g : Addr) (Ng : List Str) (a : Str) (L : List (Value × Cl)) (pg : Arguments) (sg : Scope) (dV kV doc pm cdv ct oc : Value) (an od : Option Addr) (osl : Array (Option Value)) (h0 : ExceptHandler) (hl : List ExceptHandler) (p1 p2 p3 p6 : Pos),
    mg x = some (.ref g) ∧ PySem.W.keepIn K (.ref g) = true ∧ Ng.length = N ∧ Ng[0]? = some a ∧ FnScope Ng [a] sg ∧ Vis sg a ∧ (a == ("__debug__" : Str)) = false ∧ (a == ("__classdict__" : Str)) = false ∧ (∀ f : Addr, (L2.start Ng [V.ref f])[0]? = some (some (V.ref f))) ∧
    K.lookup g = some ⟨oc, od, .func (PySem.W.fnOf x x pg [.Try [.Return (some (.Call (.Name a p1) [] [] p2)) p3] (h0 :: hl) [] [] p6] sg dV kV doc pm an cdv ct), osl⟩ ∧ PySem.W.codeIn K cdv x = true ∧
    L2.Binds K (PySem.W.fnOf x x pg [.Try [.Return (some (.Call (.Name a p1) [] [] p2)) p3] (h0 :: hl) [] [] p6] sg dV kV doc pm an cdv ct) [a] [] ∧ L.map (·.2) = cl ∧
    (∀ p ∈ L, ∀ cn b C, p.2.acc cn = some b → mg cn = some (.ref C) → PySem.W.exmOne K (.ref C) p.1 = some b) ∧ SuiteL P w K mg base n k Ng x sg (h0 :: hl) L
section
open LamX
variable {X : Cx} {n k : Nat}
theorem pst_finS {g : Gx} {W W' : WX} {U : Addr → Prop} {σ : St} {F : Hp} {ρ : List Addr} {H : Hp} {r : SR} {Q : VK} (h : Pst g W σ (Rel g) F ρ H r.finS Q) (hU : ∀ x, ¬ U x) : PstS g W' U F ρ H r { nx := fun _ H' => Q .non H', rt := Q } := by
  cases r with
  | next σi cs => exact pst_fin (r := .next σi cs) h (fun _ _ _ z => by cases z) hU
  | ret x cs => exact pst_fin (r := .ret x cs) h (fun _ _ _ z => by cases z) hU
  | brk σi cs => exact h.elim
  | cnt σi cs => exact h.elim
  | ex e σi cs => exact h.elim
  | stuck => exact h.elim
/-- x(lambda: body) -/
theorem je_lamL {W : WX} {x : Str} {N c P : Nat} {cl : List Cl} {params : Arguments} {body : Expr} {scope : Scope} {p lpos pos : Pos} {m : M IV} (G : ToldL X.prog X.w X.K X.mg X.base n (k + 1) x N cl) (TB : TabB X.base X.mg c P) (hcode : X.env.code = .ref c)
    (hmT : (P, X.env.qual ++ "<lambda>") ∈ lamT X.K) (hu : ∀ p ∈ lamT X.K, p.1 = P → p.2 = X.env.qual ++ "<lambda>") (hr : Room (k + 2) X.A) (hgd : X.A.guards = some []) (L : LamS X.env.scope scope) (hdef : defaultsOf params X.env = ([], []))
    (hbind : ∀ (q : Str) (cl : List (Str × Addr)) (pm cv ctv : Value), bindArgs (PySem.W.kla_fn "<lambda>" q params body scope cl pm cv ctv) ⟨[], []⟩ = pure [])
    (hbody : ∀ (A : Around) (outer : List Env) (s : Shared) (H : Hp) (E : XK) (f c' : Addr), Room k (A.deeper (lamEnv X scope s.heap.objs.size f c')) → A.guards = some [] → JE (lamCx X A outer s H E scope f c') n (bW E) body m)
    (hg : Gl X x := by rfl) (hdb : (x == ("__debug__" : Str)) = false := by decide) : JE X n W (.Call (.Name x p) [.Lambda params body scope lpos] [] pos) (eToldL N cl m) := by
  obtain ⟨g, Ng, a, LC, pg, sg, dV, kV, doc, pm, cdv, ct, oc, an, od, osl, h0, hl0, p1, p2, p3, p6, hm, hk, hlen, hN0, Sg, hva, hd1, hd2, hst, lk, hcg, hb, hcl, hacc, hsu⟩ := G
  subst hcl
  refine ⟨fun pins s σ H Q I hyp => ?_⟩
  obtain ⟨F, ρ, cs, σi, hs, hl, hp⟩ := hyp
  refine wpAny_Call_Name_kw (ld_glob I hg hm ?_ hdb)
  refine PySem.W.callWith_K (h₀ := X.base) I.ok.mod.kin hk ?_ (by rfl) (by rfl)
  show wpAny _ _ (spliced ((false, eval (.Lambda params body scope lpos) X.env) :: backTo pos (starEach [] X.env))) _ _ s
  refine Calls.spliced_cons (lam_mk I TB hcode hmT hu hs.tb hdef (L.has I.ok) fun f c' pm' ctv H1 s' I1 eN T1 dm1 hf hfn hfr hco => ?_)
  refine Calls.spliced_nil ⟨I1.kIn, ?_⟩
  obtain ⟨sm1, st1⟩ := sim_ext hs eN T1 dm1
  have hl1 := hl.stp st1
  have hp1 := hp.stp st1
  have rc : codeAny (model X.prog X.w) X.A (.call (.ref g) ⟨[.ref f], []⟩) (CR (L2.CX X.prog X.w) X.stack X.prog X.w H1 s' Q fun _ _ _ => False) s' := by
    refine run_ofS (N := Ng) (ps := [a]) (us := [.ref f]) (vs := [.ref f]) lk hcg Sg hr I1.env0 (hb s' [.ref f] I1.kIn rfl) (.cons rfl .nil) rfl fun hr' => ?_
    refine ⟨_, pss_one (ps_try_all (X := bX X.prog X.w X.K X.mg X.base Ng x sg g cdv X.A X.stack s' H1 fun _ _ _ => False)
      (tb := fun W D σZ HZ => σZ[0]? = some (some (.ref f)) ∧ HZ c' = some (CodeO c' (X.env.qual ++ "<lambda>")) ∧ tG (gx X) n (bW (WE W σZ)) (Rel (gx X)) m σ HZ D.rt) (Wo := W0) rfl rfl Sg.nd LamX.takes0 (fun W pn xe tk _ => ?_) (hsu g cdv X.A X.stack s' H1 _ hr' (by exact hgd))), ?_⟩
    · refine ⟨fun pinsZ sZ σZ HZ D IZ h' => ?_⟩
      have hact := pe_actG (n := n) (m := m) (i := 0) (p1 := p1) (p2 := p2) I1 L hf hfn hfr (hbind _ _ _ _ _) tk hr' hgd hbody hN0 hva hd1 hd2
      exact (pss_one (ps_ret (pos := p3) hact)).run pinsZ sZ σZ HZ D IZ h'
    · refine ⟨hst f, hco, F, ρ, cs, σi, sm1, hl1, ?_⟩
      unfold eToldL at hp1
      cases hmr : m n σi cs with
      | ok y cs' => rw [hmr] at hp1; exact hp1
      | stuck => rw [hmr] at hp1; exact hp1.elim
      | ex e cs' =>
        rw [hmr] at hp1
        replace hp1 : Pst (gx X) W σ (Rel (gx X)) F ρ H1 (caughtL (LC.map (·.2)) e n (List.replicate N .un) cs').finS Q := hp1
        have hps := pst_finS (W' := W0) (U := fun _ => False) hp1 (fun _ z => z)
        intro F' ρ' H' cls d st sm rx
        refine pst_wAll (X := bX X.prog X.w X.K X.mg X.base Ng x sg g cdv X.A X.stack s' H1 fun _ _ _ => False) (W := W0) (U := fun _ => False) (L := LC) (e := e) (σi := List.replicate N .un) (cs := cs') hacc hps F' ρ' H' (L2.start Ng [.ref f]) cls d st.u sm (un_slts ?_) (fun x o => (un_own o).elim) rx
        have h0 : 0 < Ng.length := (List.getElem?_eq_some_iff.mp hN0).1
        rw [← hlen]
        unfold L2.start
        simp
        omega
  refine wpAny_call (codeAny_mono rc fun r s2 hq => ?_)
  cases r with
  | error e =>
    obtain ⟨_, _, _, _, _, _, _, _, _, _, _, _, z⟩ := hq
    exact z.elim
  | ok fl =>
    cases fl with
    | ret u => exact I1.after hq
    | next => exact False.elim hq
    | brk => exact False.elim hq
    | cont => exact False.elim hq
end
end SL

set_option Elab.async false
set_option linter.all false
set_option autoImplicit false
set_option maxRecDepth 100000
set_option maxHeartbeats 4000000
/-! SLMore2: a target of a tuple or a list; sorted ints. -/
namespace SL
open PySem PySem.Spec L2
open PyProof.Rows hiding St
def insS (x : Int) : List Int → List Int
  | [] => [x]
  | y :: r => if x ≤ y then x :: y :: r else y :: insS x r
def isrt : List Int → List Int
  | [] => []
  | x :: r => insS x (isrt r)
theorem insS_perm (x : Int) : ∀ l : List Int, (insS x l).Perm (x :: l)
  | [] => .refl _
  | y :: r => by
    unfold insS
    split
    · exact .refl _
    · exact ((insS_perm x r).cons y).trans (.swap x y r)
theorem isrt_perm : ∀ l : List Int, (isrt l).Perm l
  | [] => .refl _
  | x :: r => (insS_perm x (isrt r)).trans ((isrt_perm r).cons x)
theorem insS_srt {x : Int} : ∀ {l : List Int}, l.Pairwise (· ≤ ·) → (insS x l).Pairwise (· ≤ ·)
  | [], _ => by simp [insS]
  | y :: r, h => by
    unfold insS
    split
    · rename_i hxy
      refine List.pairwise_cons.mpr ⟨fun z hz => ?_, h⟩
      rcases List.mem_cons.mp hz with rfl | hz
      · exact hxy
      · have := (List.pairwise_cons.mp h).1 z hz; omega
    · rename_i hxy
      refine List.pairwise_cons.mpr ⟨fun z hz => ?_, insS_srt (List.pairwise_cons.mp h).2⟩
      rcases List.mem_cons.mp ((insS_perm x r).mem_iff.mp hz) with rfl | hz
      · omega
      · exact (List.pairwise_cons.mp h).1 z hz
theorem isrt_srt : ∀ l : List Int, (isrt l).Pairwise (· ≤ ·)
  | [] => .nil
  | x :: r => insS_srt (isrt_srt r)
theorem srt_one {a b : List Int} (p : a.Perm b) (ha : a.Pairwise (· ≤ ·)) (hb : b.Pairwise (· ≤ ·)) : a = b := by
  induction a generalizing b with
  | nil => exact p.nil_eq
  | cons x a ih =>
    cases b with
    | nil => exact absurd p.symm.nil_eq (by simp)
    | cons y b =>
      have h1 := List.pairwise_cons.mp ha
      have h2 := List.pairwise_cons.mp hb
      have e : x = y := by
        have m1 : x ∈ y :: b := p.mem_iff.mp (by simp)
        have m2 : y ∈ x :: a := p.mem_iff.mpr (by simp)
        rcases List.mem_cons.mp m1 with z | z
        · exact z
        · rcases List.mem_cons.mp m2 with w | w
          · exact w.symm
          · have := h2.1 x z; have := h1.1 y w; omega
      subst e
      rw [ih (List.perm_cons x |>.mp p) h1.2 h2.2]
def intsI : List IV → Option (List Int)
  | [] => some []
  | .int i :: r => (intsI r).map (i :: ·)
  | _ => none
theorem intsI_of : ∀ {xs : List IV} {ns : List Int}, intsI xs = some ns → xs = ns.map IV.int
  | [], ns, h => by cases h; rfl
  | x :: r, ns, h => by
    cases x with
    | int i =>
      obtain ⟨ms, h1, rfl⟩ := Option.map_eq_some_iff.mp h
      rw [intsI_of h1]; rfl
    | _ => cases h
/-- sorted(xs) of ints -/
def fSorted : List Cell → List IV → Option IV
  | _, [.lst xs] => (intsI xs).map fun ns => .lst ((isrt ns).map IV.int)
  | _, _ => none
theorem ints_rel {g : Gx} {F : Hp} {ρ : List Addr} : ∀ {ns : List Int} {vs : List V}, RelL g F ρ (ns.map IV.int) vs → vs = ns.map V.int
  | [], vs, h => by simpa only [List.map_nil, RelL] using h
  | i :: r, vs, h => by
    simp only [List.map_cons, RelL] at h
    obtain ⟨v, vs', rfl, h1, h2⟩ := h
    rw [relInt h1, ints_rel h2]; rfl
theorem rel_ints {g : Gx} {F : Hp} {ρ : List Addr} : ∀ (ns : List Int), RelL g F ρ (ns.map IV.int) (ns.map V.int)
  | [] => .nil
  | i :: r => .cons (by simp only [Rel]) (rel_ints r)
theorem cj_sorted {X : Cx} : CallR X (.builtin "sorted") (rCJ (gx X) fSorted) := by
  intro pins s σ H vs us Q I r h
  obtain ⟨F, ρ, cs, xs, z, hs, hx, hf, q⟩ := h
  unfold fSorted at hf
  split at hf
  · obtain ⟨ns, h1, rfl⟩ := Option.map_eq_some_iff.mp hf
    rename_i ys
    rw [intsI_of h1] at hx
    obtain ⟨v, rfl, h2⟩ := relL1 hx
    simp only [Rel] at h2
    obtain ⟨a, ws, rfl, h3, h4⟩ := h2
    rw [ints_rel h4] at h3
    refine cr_sortedI pins s σ H _ us Q I r ⟨a, ns, rfl, .inl (.inl (hs.fz _ _ h3)), fun ns' p hp hsrt hfree => ?_⟩
    have e : ns' = isrt ns := srt_one (hp.trans (isrt_perm ns).symm) hsrt (isrt_srt ns)
    subst e
    obtain ⟨hs', st⟩ := hs.new (o := .lst ((isrt ns).map V.int)) hfree
    refine q _ ρ _ _ st hs' ?_
    simp only [Rel]
    exact ⟨p, _, rfl, upd_same, rel_ints _⟩
  · cases hf
/-- a target of a tuple or of a list -/
def gmSq (k : Nat) (b : GMs) : GM := fun x σ => match x with
  | .tup xs => if xs.length = k then b xs σ else none
  | .lst xs => if xs.length = k then b xs σ else none
  | _ => none
@[simp] theorem ev_gmSqT {k : Nat} {b : GMs} {xs : List IV} {σ : List SV} : gmSq k b (.tup xs) σ = if xs.length = k then b xs σ else none := id rfl
@[simp] theorem ev_gmSqL {k : Nat} {b : GMs} {xs : List IV} {σ : List SV} : gmSq k b (.lst xs) σ = if xs.length = k then b xs σ else none := id rfl
theorem pg_or {X : Cx} {e : Expr} {t u : TG} (h : PG X e t) (h2 : PG X e u) : PG X e (fun v σ H Q => t v σ H Q ∨ u v σ H Q) := ⟨fun pins s σ H v u' Q I r q => q.elim (h.run pins s σ H v u' Q I r) (h2.run pins s σ H v u' Q I r)⟩
section
variable {X : Cx} {ts : List Expr} {gms : GMs} {pos : Pos} {k : Nat}
theorem jg_sq {k2 : Nat} {ix : List Nat} (hc : X.calm = true) (h : JGs X ts ix gms) (hn : (assignEach ts X.env).length = k := by rfl) (hst : (assignEach ts X.env).findIdx? (·.1) = none := by rfl) : JG X (.Tuple ts k2 pos) ix (gmSq k gms) := by
  refine pg_imp (pg_or (pg_tup hc h hn hst) (pg_lst hc h hn hst)) fun v σ H Q h => ?_
  obtain ⟨F, ρ, cs, σi, x, σi', hs, hl, r, e, q⟩ := h
  unfold gmSq at e
  split at e
  · split at e
    · rename_i xs hk
      simp only [Rel] at r
      obtain ⟨a, vs, rfl, h1, h2⟩ := r
      exact .inl ⟨a, vs, rfl, sqT_mono hs.fz h1, by rw [← h2.len]; exact hk, F, ρ, cs, σi, xs, σi', hs, hl, h2, e, q⟩
    · cases e
  · split at e
    · rename_i xs hk
      simp only [Rel] at r
      obtain ⟨a, vs, rfl, h1, h2⟩ := r
      exact .inr ⟨a, vs, rfl, .inl (.inl (hs.fz _ _ h1)), by rw [← h2.len]; exact hk, F, ρ, cs, σi, xs, σi', hs, hl, h2, e, q⟩
    · cases e
  · cases e
end
end SL

set_option Elab.async false
set_option linter.all false
set_option autoImplicit false
set_option maxRecDepth 100000
set_option maxHeartbeats 4000000
/-! SLObj: cells frozen; instances of the text's classes: made, read, stored, their methods and properties. -/
namespace SL
open PySem PySem.Spec L2
open PyProof.Rows hiding St
section
variable {g : Gx} {F F' : Hp} {ρ ρ' : List Addr} {H H' : Hp} {cs : List Cell}
theorem nd_ne {k n : Nat} {a b : Addr} (nd : ρ.Nodup) (ha : ρ[k]? = some a) (hb : ρ[n]? = some b) (h : k ≠ n) : b ≠ a := fun z => by
  subst z
  have h1 := (List.getElem?_eq_some_iff.mp ha)
  have h2 := (List.getElem?_eq_some_iff.mp hb)
  exact h ((List.getElem_inj nd).mp (h1.2.trans h2.2.symm))
/-- a cell stands still from now on -/
theorem Sim.frz {k : Nat} {a : Addr} {c : Cell} {o : HO} (hs : Sim g F ρ cs H) (e : cs[k]? = some c) (hl : c ≠ .dead) (ha : ρ[k]? = some a) (ho : H a = some o) : Sim g (upd F a o) ρ (cs.set k .dead) H ∧ Stp F ρ H (upd F a o) ρ H := by
  have ma : a ∈ ρ := List.mem_of_getElem? ha
  have fa := hs.lv k c a e ha hl
  have nt : ∀ ps, o ≠ .tbl ps := fun ps z => (hs.nx a ma).1 ps (by rw [ho, z])
  have fm : ∀ b u, F b = some u → upd F a o b = some u := fun b u h => upd_none fa h
  refine ⟨⟨fun b u h => ?_, by rw [List.length_set]; exact hs.len, hs.nd, hs.av, fun n d b e1 e2 e3 => ?_, fun n d b e1 e2 => ?_, hs.tb, hs.nx, ft_upd hs.ft nt⟩, ⟨fm, fun b h h' => ?_, ⟨[], by simp⟩, fun b h h' => absurd h h', fun b u h _ _ _ => h, fun b h => h⟩⟩
  · by_cases z : b = a
    · subst z; rw [upd_same] at h; rw [ho, h]
    · rw [upd_ne z] at h; exact hs.fz b u h
  · by_cases z : k = n
    · subst z
      rw [List.getElem?_set_self (by rw [← hs.len]; exact (List.getElem?_eq_some_iff.mp ha).1)] at e1
      cases e1
      exact absurd rfl e3
    · rw [List.getElem?_set_ne z] at e1
      rw [upd_ne (nd_ne hs.nd ha e2 z)]
      exact hs.lv n d b e1 e2 e3
  · by_cases z : k = n
    · subst z
      rw [List.getElem?_set_self (by rw [← hs.len]; exact (List.getElem?_eq_some_iff.mp ha).1)] at e1
      cases e1
      trivial
    · rw [List.getElem?_set_ne z] at e1
      exact (hs.ok n d b e1 e2).mono fm ⟨[], by simp⟩
  · by_cases z : b = a
    · right; right; rw [z]; exact ma
    · rw [upd_ne z] at h; exact absurd h' h
/-- a new object as a cell -/
theorem Sim.newC {p : Addr} {c : Cell} {o : HO} (hs : Sim g F ρ cs H) (hp : H p = none) (hr : ∀ ρ', (∃ t, ρ' = ρ ++ t) → RelC g F ρ' c (some o)) (hx : NoX (some o)) : Sim g F (ρ ++ [p]) (cs ++ [c]) (upd H p o) ∧ Stp F ρ H F (ρ ++ [p]) (upd H p o) := by
  have fp : F p = none := by
    cases e : F p with
    | none => rfl
    | some u => rw [hs.fz p u e] at hp; cases hp
  have np : ∀ a ∈ ρ, a ≠ p := fun a ha z => hs.av a ha (by rw [z]; exact hp)
  have nth : ∀ {n : Nat} {d : Cell} {b : Addr}, (cs ++ [c])[n]? = some d → (ρ ++ [p])[n]? = some b → (n < cs.length ∧ cs[n]? = some d ∧ ρ[n]? = some b) ∨ (d = c ∧ b = p) := fun {n d b} e1 e2 => by
    by_cases hn : n < cs.length
    · rw [List.getElem?_append_left hn] at e1
      rw [List.getElem?_append_left (by rw [hs.len]; exact hn)] at e2
      exact .inl ⟨hn, e1, e2⟩
    · rw [List.getElem?_append_right (by omega)] at e1
      rw [List.getElem?_append_right (by rw [hs.len]; omega)] at e2
      have h0 : n - cs.length = 0 := by
        have := (List.getElem?_eq_some_iff.mp e1).1
        simp at this; omega
      have h1 : n - ρ.length = 0 := by rw [hs.len]; exact h0
      rw [h0] at e1
      rw [h1] at e2
      cases e1; cases e2
      exact .inr ⟨rfl, rfl⟩
  refine ⟨⟨fun b u h => ?_, by simp [hs.len], ?_, fun b hb => ?_, fun n d b e1 e2 e3 => ?_, fun n d b e1 e2 => ?_, tabs_upd hs.tb (by rw [hp]; exact NoX.none), fun b hb => ?_, hs.ft⟩, ⟨fun _ _ h => h, fun b h h' => absurd h' h, ⟨[p], rfl⟩, fun b h h' => ?_, fun b u h _ _ _ => ?_, fun b h => ?_⟩⟩
  · rw [upd_ne (fun z => by rw [z, fp] at h; cases h)]
    exact hs.fz b u h
  · exact List.nodup_append.mpr ⟨hs.nd, by simp, fun b hb c hc z => by
      rw [List.mem_singleton] at hc
      exact np b hb (by rw [z, hc])⟩
  · rcases List.mem_append.mp hb with z | z
    · rw [upd_ne (np b z)]; exact hs.av b z
    · rw [List.mem_singleton.mp z, upd_same]; intro q; cases q
  · rcases nth e1 e2 with ⟨_, h1, h2⟩ | ⟨_, h2⟩
    · exact hs.lv n d b h1 h2 e3
    · rw [h2]; exact fp
  · rcases nth e1 e2 with ⟨_, h1, h2⟩ | ⟨h1, h2⟩
    · rw [upd_ne (np b (List.mem_of_getElem? h2))]
      exact (hs.ok n d b h1 h2).mono (fun _ _ h => h) ⟨[p], rfl⟩
    · rw [h1, h2, upd_same]
      exact hr _ ⟨[p], rfl⟩
  · rcases List.mem_append.mp hb with z | z
    · rw [upd_ne (np b z)]; exact hs.nx b z
    · rw [List.mem_singleton.mp z, upd_same]; exact hx
  · rcases List.mem_append.mp h with z | z
    · exact absurd z h'
    · rw [List.mem_singleton.mp z]; exact .inl hp
  · rw [upd_ne (ne_of_none h hp)]; exact h
  · by_cases e : b = p
    · rw [e, upd_same]; intro z; cases z
    · rw [upd_ne e]; exact h
/-- an object that nobody looks at -/
theorem Sim.bg {p : Addr} {o : HO} (hs : Sim g F ρ cs H) (hp : H p = none) : Sim g F ρ cs (upd H p o) ∧ Stp F ρ H F ρ (upd H p o) := let z := hs.lay (o := o) hp; ⟨z.1, z.2.1⟩
end

/-! ### a value that stands still from now on -/
def frzC (k : Nat) (cs : List Cell) : Option IV := match cs[k]? with
  | some (.lst xs) => some (.lst xs)
  | some (.dct ks xs) => some (.dct ks xs)
  | some (.ins c fs xs) => some (.obj c fs xs)
  | _ => none
def frzV (x : IV) (cs : List Cell) : IV × List Cell := match x with
  | .cell k => match frzC k cs with
    | some y => (y, cs.set k .dead)
    | none => (.cell k, cs)
  | y => (y, cs)
def eFrz (m : M IV) : M IV := fun n σ cs => (m n σ cs).then fun x cs' => .ok (frzV x cs').1 (frzV x cs').2
section
variable {X : Cx} {n k : Nat} {W : WX} {e o : Expr} {es : List Expr} {m ma mo : M IV} {mr : M (List IV)} {g : Gx}
/-- such an object from now on -/
theorem Sim.frzH {F : Hp} {ρ : List Addr} {H : Hp} {cs : List Cell} {k : Nat} {a : Addr} {c : Cell} {o : HO} (hs : Sim g F ρ cs H) (e : cs[k]? = some c) (hl : c ≠ .dead) (ha : ρ[k]? = some a) (hx : NoX (some o)) : Sim g (upd F a o) ρ (cs.set k .dead) (upd H a o) ∧ Stp F ρ H (upd F a o) ρ (upd H a o) := by
  obtain ⟨s1, s2⟩ := hs.cell (c := .dead) (o := o) e hl ha trivial hx
  have ma : a ∈ ρ := List.mem_of_getElem? ha
  have fa := hs.lv k c a e ha hl
  have hlen : k < cs.length := by rw [← hs.len]; exact (List.getElem?_eq_some_iff.mp ha).1
  have nt : ∀ ps, o ≠ .tbl ps := fun ps z => hx.1 ps (by rw [z])
  have fm : ∀ b u, F b = some u → upd F a o b = some u := fun b u h => upd_none fa h
  refine ⟨⟨fun b u h => ?_, s1.len, s1.nd, s1.av, fun n d b e1 e2 e3 => ?_, fun n d b e1 e2 => (s1.ok n d b e1 e2).mono fm ⟨[], by simp⟩, s1.tb, s1.nx, ft_upd hs.ft nt⟩, s2.tr ⟨fm, fun b h h' => ?_, ⟨[], by simp⟩, fun b h h' => absurd h h', fun b u h _ _ _ => h, fun b h => h⟩⟩
  · by_cases z : b = a
    · subst z; rw [upd_same] at h ⊢; exact h
    · rw [upd_ne z] at h; exact s1.fz b u h
  · by_cases z : k = n
    · subst z
      rw [List.getElem?_set_self hlen] at e1
      cases e1
      exact absurd rfl e3
    · rw [upd_ne (nd_ne hs.nd ha e2 z)]
      exact s1.lv n d b e1 e2 e3
  · by_cases z : b = a
    · right; right; rw [z]; exact ma
    · rw [upd_ne z] at h; exact absurd h' h
theorem NoX.frz {o : Obj} {kvs : List (Key × V)} : NoX (some (.frz o (.dK kvs))) := ⟨fun _ z => (by cases z), fun _ _ z => (by unfold LamX.CodeO at z; cases z)⟩
theorem frz_rel {F : Hp} {ρ : List Addr} {H : Hp} {cs : List Cell} {x : IV} {v : V} (hs : Sim g F ρ cs H) (r : Rel g F ρ x v) : (∃ F', Sim g F' ρ (frzV x cs).2 H ∧ Stp F ρ H F' ρ H ∧ Rel g F' ρ (frzV x cs).1 v) ∨
    ∃ d u, H d = some u ∧ Mut (some u) ∧ ∀ od, ∃ F', Sim g F' ρ (frzV x cs).2 (upd H d (.frz od u)) ∧ Stp F ρ H F' ρ (upd H d (.frz od u)) ∧ Rel g F' ρ (frzV x cs).1 v := by
  have same : ∃ F', Sim g F' ρ cs H ∧ Stp F ρ H F' ρ H ∧ Rel g F' ρ x v := ⟨F, hs, StpU.refl, r⟩
  unfold frzV
  split
  · rename_i k
    cases e : frzC k cs with
    | none => exact .inl same
    | some y =>
      unfold frzC at e
      split at e
      · rename_i xs q
        cases e
        simp only [Rel] at r
        obtain ⟨a, rfl, h1⟩ := r
        obtain ⟨vs, h2, h3⟩ := hs.ok k _ a q h1
        obtain ⟨s1, s2⟩ := hs.frz q (by intro z; cases z) h1 h2
        exact .inl ⟨_, s1, s2, by simp only [Rel]; exact ⟨a, vs, rfl, upd_same, h3.stp s2⟩⟩
      · rename_i ks xs q
        cases e
        simp only [Rel] at r
        obtain ⟨a, rfl, h1⟩ := r
        obtain ⟨vs, h2, hl, h3⟩ := hs.ok k _ a q h1
        refine .inr ⟨a, _, h2, True.intro, fun od => ?_⟩
        obtain ⟨s1, s2⟩ := hs.frzH (o := .frz od (.dK (ks.zip vs))) q (by intro z; cases z) h1 NoX.frz
        exact ⟨_, s1, s2, by simp only [Rel]; exact ⟨a, vs, rfl, hl, ⟨od, upd_same⟩, h3.stp s2⟩⟩
      · rename_i c fs xs q
        cases e
        simp only [Rel] at r
        obtain ⟨a, rfl, h1⟩ := r
        obtain ⟨C, dx, vs, hm, h2, hl, h3⟩ := hs.ok k _ a q h1
        obtain ⟨s1, s2⟩ := hs.frz q (by intro z; cases z) h1 h2
        exact .inl ⟨_, s1, s2, by simp only [Rel]; exact ⟨a, C, dx, vs, rfl, hm, upd_same, hl, h3.stp s2⟩⟩
      · cases e
  · exact .inl same
theorem je_frz (h : JE X n W e m) : JE X n W e (eFrz m) := by
  refine pe_imp (pe_frzd h) fun σ H Q q => ?_
  obtain ⟨F, ρ, cs, σi, hs, hl, hp⟩ := q
  refine go hs hl hp fun v H1 F1 ρ1 cs1 x st1 hs1 hl1 r1 hp1 => ?_
  rcases frz_rel hs1 r1 with ⟨F2, s1, s2, r2⟩ | ⟨d, u, h1, mu, k⟩
  · exact .inl (hp1 F2 ρ1 H1 v s2 s1 r2)
  · refine .inr ⟨d, u, h1, mu, fun od => ?_⟩
    obtain ⟨F2, s1, s2, r2⟩ := k od
    exact hp1 F2 ρ1 _ v s2 s1 r2

/-! ### the text's classes -/
/-- the class that the module calls c -/
structure KlsG (K : PySem.W.Frag) (mg : Str → Option Value) (c : Str) (C : Addr) : Prop where
  gC : mg c = some (.ref C)
  cls : Cls K C
/-- what a value's class and fields are -/
def insI (x : IV) (cs : List Cell) : Option (Str × List Str × List IV) := match x with
  | .obj c fs xs => some (c, fs, xs)
  | .cell k => match cs[k]? with
    | some (.ins c fs xs) => some (c, fs, xs)
    | _ => none
  | _ => none
theorem ins_rel {F : Hp} {ρ : List Addr} {H : Hp} {cs : List Cell} {x : IV} {v : V} {c : Str} {fs : List Str} {xs : List IV} (hs : Sim g F ρ cs H) (r : Rel g F ρ x v) (h : insI x cs = some (c, fs, xs)) :
    ∃ a C dx vs, v = .ref a ∧ g.mg c = some (.ref C) ∧ H a = some (.ins C dx (fs.zip vs)) ∧ fs.length = vs.length ∧ RelL g F ρ xs vs := by
  unfold insI at h
  split at h
  · cases h
    simp only [Rel] at r
    obtain ⟨a, C, dx, vs, e, h1, h2, h3, h4⟩ := r
    exact ⟨a, C, dx, vs, e, h1, hs.fz _ _ h2, h3, h4⟩
  · rename_i k
    split at h
    · rename_i q
      cases h
      simp only [Rel] at r
      obtain ⟨a, rfl, h1⟩ := r
      obtain ⟨C, dx, vs, hm, h2, hl, h3⟩ := hs.ok k _ a q h1
      exact ⟨a, C, dx, vs, rfl, hm, h2, hl, h3⟩
    · cases h
  · cases h
def fldI (c f : Str) (x : IV) (cs : List Cell) : Option IV := (insI x cs).bind fun y => if y.1 = c then (y.2.1.zip y.2.2).lookup f else none
/-- o.f, a field of an instance of c -/
def eFld (c f : Str) (m : M IV) : M IV := m.bind fun x => eCells (fldI c f x)
theorem je_fld {c f : Str} {C : Addr} {pos : Pos} (T : KlsG X.K X.mg c C) (hn : NoAttr X.K C f) (h : JE X n W o m) (hb : attributeBase o f X.env (eval o X.env) = eval o X.env := by rfl) : JE X n W (.Attribute o f pos) (eFld c f m) := by
  refine pe_imp (pe_fld h hb) fun σ H Q q => ?_
  obtain ⟨F, ρ, cs, σi, hs, hl, hp⟩ := q
  refine go hs hl hp fun v H1 F1 ρ1 cs1 x st1 hs1 hl1 r1 hp1 => ?_
  obtain ⟨z, hz, hq⟩ := pst_cells (f := fldI c f x) hp1
  obtain ⟨⟨c', fs, xs⟩, h1, h2⟩ := Option.bind_eq_some_iff.mp hz
  split at h2
  · rename_i hc
    replace hc : c' = c := hc
    subst hc
    obtain ⟨a, C', dx, vs, rfl, hm, h3, h4, h5⟩ := ins_rel hs1 r1 h1
    have e := T.gC.symm.trans hm
    cases e
    obtain ⟨w, h6, h7⟩ := relL_lookup h5 h2
    exact ⟨a, _, dx, _, w, rfl, h3, T.cls, hn, h6, hq F1 ρ1 H1 w StpU.refl hs1 h7⟩
  · cases h2
end
/-! ### new instances -/
/-- c(..): a new instance as a cell, then __init__ -/
def mkI (c : Str) (fm : FM) (xs : List IV) : Nat → List Cell → Res IV := fun n cs => match fm n (.cell cs.length :: xs) (cs ++ [.ins c [] []]) with
  | .ok .non cs' => .ok (.cell cs.length) cs'
  | .ok _ _ => .stuck
  | .ex e cs' => .ex e cs'
  | .stuck => .stuck
def eMk (c : Str) (fm : FM) (np : Nat) (dxs : List IV) (a : M (List IV)) : M IV := a.bind fun xs => fun n _ cs => if (xs ++ dxs).length + 1 = np then mkI c fm (xs ++ dxs) n cs else .stuck
/-- the class c and its __init__ -/
def MkG (P : Program) (w : World) (K : PySem.W.Frag) (mg : Str → Option Value) (base : Heap) (n k : Nat) (c : Str) (ps : List Str) (dxs : List IV) (fm : FM) : Prop :=
  ∃ C f fd ds dvs, KlsG K mg c C ∧ Mk K C f ∧ Binds K fd ps ds ∧ Vals dvs ds ∧ (∀ F ρ, RelL (gK K mg) F ρ dxs dvs) ∧ FnG P w K mg base n k f fd ps fm
theorem make_guards {A : Around} {C : Addr} {us : List Value} {kw : List (Str × Value)} (h : A.guards = some []) : (A.under (.builtin "type.__call__" ⟨.ref C :: us, kw⟩)).guards = some [] := by
  first | exact h | (simpa [Around.under, Code.isGuard, pushGuards, guardIds] using h)
section
variable {X : Cx} {n k : Nat} {W : WX} {c x : Str} {ps ks : List Str} {dxs : List IV} {fm : FM} {p pos : Pos} {e : Expr} {es : List Expr} {ma : M (List IV)}
theorem mk_run {C f : Addr} {fd : FuncData} (T : KlsG X.K X.mg c C) (MM : Mk X.K C f) (G : FnG X.prog X.w X.K X.mg X.base n k f fd ps fm) (hr : Room (k + 1) X.A) (hgd : X.A.guards = some []) (tk : Takes X W)
    {pins : List (Addr × Obj)} {σ : St} {H : Hp} {s : Shared} {Q : VK} {us ws full : List Value} {vs : List V} (I : Inv X pins σ H s)
    (hb : ∀ (s : Shared) (u : Value), X.K.In s.heap → BindsTo s fd ⟨u :: us, ks.zip ws⟩ (ps.zip (u :: full))) (r : Vals vs full) (hl : vs.length + 1 = ps.length)
    (h : ∃ F ρ cs xs, Sim (gx X) F ρ cs H ∧ RelL (gx X) F ρ xs vs ∧ Pst (gx X) W σ (Rel (gx X)) F ρ H (mkI c fm xs n cs) Q) :
    wpAny (model X.prog X.w) X.A (call (.ref C) us (ks.zip ws)) (EP X pins σ Q) X.xe s := by
  obtain ⟨F, ρ, cs, xs, hs, rx, hp⟩ := h
  have I2 := Inv.made (C := C) I
  have hx1 : H s.heap.objs.size = none := I.hok.fresh (Nat.le_refl _)
  have hx2 : H (s.heap.objs.size + 1) = none := I.hok.fresh (Nat.le_succ _)
  have ne : s.heap.objs.size + 1 ≠ s.heap.objs.size := Nat.succ_ne_self _
  obtain ⟨b1, b2⟩ := hs.bg (o := .own (s.heap.objs.size + 1)) hx1
  have hx3 : upd H s.heap.objs.size (.own (s.heap.objs.size + 1)) (s.heap.objs.size + 1) = none := by rw [upd_ne ne]; exact hx2
  obtain ⟨c1, c2⟩ := b1.newC (p := s.heap.objs.size + 1) (c := .ins c [] []) (o := .ins C s.heap.objs.size []) hx3 (fun ρ' _ => ⟨C, _, [], T.gC, rfl, rfl, .nil⟩) NoX.ins
  have st : Stp F ρ H F (ρ ++ [s.heap.objs.size + 1]) (upd (upd H s.heap.objs.size (.own (s.heap.objs.size + 1))) (s.heap.objs.size + 1) (.ins C s.heap.objs.size [])) := b2.tr c2
  have r2 : Vals (V.ref (s.heap.objs.size + 1) :: vs) (Value.ref (s.heap.objs.size + 1) :: full) := .cons rfl r
  have rx2 : RelL (gx X) F (ρ ++ [s.heap.objs.size + 1]) (.cell cs.length :: xs) (V.ref (s.heap.objs.size + 1) :: vs) := .cons (by
    simp only [Rel]
    exact ⟨_, rfl, by rw [List.getElem?_append_right (by rw [hs.len]; exact Nat.le_refl _), hs.len, Nat.sub_self]; rfl⟩) (rx.stp st)
  refine wpAny_call (make_map (f := f) I.kIn MM.makes MM.init (beq_iff_eq.mp MM.fn) (codeAny_mono (G.run _ X.stack _ _ ⟨Value.ref (s.heap.objs.size + 1) :: us, ks.zip ws⟩ (Value.ref (s.heap.objs.size + 1) :: full) _ (fun v H2 => v = .non ∧ Q (.ref (s.heap.objs.size + 1)) H2) (WE W σ) (hr.make C us (ks.zip ws)) (make_guards hgd)
    (I2.env0.make C us (ks.zip ws)) (hb _ (.ref (s.heap.objs.size + 1)) I2.kIn) r2 hl ⟨F, _, _, _, c1, rx2, ?_⟩) fun r s' hq' => ?_))
  · unfold mkI at hp
    cases e : fm n (.cell cs.length :: xs) (cs ++ [.ins c [] []]) with
    | ok z cs' =>
      rw [e] at hp
      intro F' ρ' H' v t1 s1 rv
      cases z with
      | non =>
        refine ⟨relNon rv, hp F' ρ' H' _ (st.tr t1) s1 ?_⟩
        obtain ⟨t, ht⟩ := t1.rp
        simp only [Rel]
        refine ⟨_, rfl, ?_⟩
        rw [ht, List.append_assoc, List.getElem?_append_right (by rw [hs.len]; exact Nat.le_refl _), hs.len, Nat.sub_self]
        rfl
      | _ => exact hp.elim
    | ex z cs' =>
      rw [e] at hp
      exact fun F' ρ' H' cls d t1 s1 rv => hp F' ρ' H' cls d (st.tr t1) s1 rv
    | stuck =>
      rw [e] at hp
      exact hp
  · cases r with
    | error e => exact passAt tk σ pins _ _ e s' I2 hq'
    | ok fl =>
      cases fl with
      | ret u =>
        obtain ⟨v, H', I3, rv, ev, q3⟩ := I2.after hq'
        subst ev
        exact ⟨rv, ⟨V.ref (s.heap.objs.size + 1), H', I3, rfl, q3⟩⟩
      | next => exact False.elim hq'
      | brk => exact False.elim hq'
      | cont => exact False.elim hq'
theorem eMk_run {g : Gx} {np : Nat} {σ : St} {H : Hp} {Q : VK} (h : tG g n W (Rel g) (eMk c fm np dxs ma) σ H Q) :
    tG g n W (RelL g) ma σ H fun vs H1 => ∃ F ρ cs xs, Sim g F ρ cs H1 ∧ RelL g F ρ xs vs ∧ (xs ++ dxs).length + 1 = np ∧ Pst g W σ (Rel g) F ρ H1 (mkI c fm (xs ++ dxs) n cs) Q := by
  obtain ⟨F, ρ, cs, σi, hs, hl, hp⟩ := h
  refine go hs hl hp fun vs H1 F1 ρ1 cs1 xs st1 hs1 hl1 r1 hp1 => ?_
  replace hp1 : Pst g W σ (Rel g) F1 ρ1 H1 (if (xs ++ dxs).length + 1 = np then mkI c fm (xs ++ dxs) n cs1 else .stuck) Q := hp1
  by_cases hn : (xs ++ dxs).length + 1 = np
  · rw [if_pos hn] at hp1
    exact ⟨F1, ρ1, cs1, xs, hs1, r1, hn, hp1⟩
  · rw [if_neg hn] at hp1
    exact hp1.elim
theorem je_make {np : Nat} (D : MkG X.prog X.w X.K X.mg X.base n k x ps dxs fm) (hr : Room (k + 1) X.A) (hgd : X.A.guards = some []) (tk : Takes X W) (ha : JA X n W (e :: es) ma) (hg : Gl X x := by rfl) (hdb : (x == ("__debug__" : Str)) = false := by decide)
    (he : starEach (e :: es) X.env = (false, eval e X.env) :: starEach es X.env := by rfl) (hpl : (backTo pos (starEach es X.env)).any (·.1) = false := by rfl) (hnp : ps.length = np := by rfl) : JE X n W (.Call (.Name x p) (e :: es) [] pos) (eMk x fm np dxs ma) := by
  subst hnp
  obtain ⟨C, f, fd, ds, dvs, T, MM, hb, hd, rd, G⟩ := D
  refine ⟨fun pins s σ H Q I h => ?_⟩
  refine wpAny_Call_Name_kw (ld_glob I hg T.gC ?_ hdb)
  refine PySem.W.callWith_K (h₀ := X.base) I.ok.mod.kin MM.kp (thn (ha.run pos pins s σ H _ I (eMk_run h)) fun us s1 ⟨vs, H1, I1, r, F, ρ, cs, xs, hs1, rx, hl, q⟩ => ⟨I1.kIn, ?_⟩) he hpl
  have rx2 := rx.append (rd F ρ)
  have hl2 : (vs ++ dvs).length + 1 = ps.length := by rw [← rx2.len]; exact hl
  have r2 : Vals (vs ++ dvs) (us ++ ds) := r.append hd
  have hl3 : (us ++ ds).length + 1 = ps.length := by rw [← r2.length]; exact hl2
  exact mk_run (ks := []) (ws := []) T MM G hr hgd tk I1 (fun s u KX => hb s (u :: us) KX (by simpa using hl3)) r2 hl2 ⟨F, ρ, cs, _, hs1, rx2, q⟩
theorem je_make0 {np : Nat} (D : MkG X.prog X.w X.K X.mg X.base n k x ps dxs fm) (hr : Room (k + 1) X.A) (hgd : X.A.guards = some []) (tk : Takes X W) (hg : Gl X x := by rfl) (hdb : (x == ("__debug__" : Str)) = false := by decide) (hnp : ps.length = np := by rfl) : JE X n W (.Call (.Name x p) [] [] pos) (eMk x fm np dxs aNil) := by
  subst hnp
  obtain ⟨C, f, fd, ds, dvs, T, MM, hb, hd, rd, G⟩ := D
  refine ⟨fun pins s σ H Q I h => ?_⟩
  refine wpAny_Call_Name_kw (ld_glob I hg T.gC ?_ hdb)
  obtain ⟨F, ρ, cs, σi, hs, hl, hp⟩ := h
  have hp1 : Pst (gx X) W σ (Rel (gx X)) F ρ H (if ([] ++ dxs).length + 1 = ps.length then mkI x fm ([] ++ dxs) n cs else .stuck) Q := hp
  by_cases hn : ([] ++ dxs).length + 1 = ps.length
  · rw [if_pos hn] at hp1
    have rx2 := rd F ρ
    have hl2 : dvs.length + 1 = ps.length := by rw [← rx2.len]; exact hn
    have hl3 : ds.length + 1 = ps.length := by rw [← hd.length]; exact hl2
    exact PySem.W.callWith_K0 I.kIn MM.kp (mk_run (us := []) (ks := []) (ws := []) T MM G hr hgd tk I (fun s u KX => hb s [u] KX (by simpa using hl3)) hd hl2 ⟨F, ρ, cs, _, hs, rx2, hp1⟩)
  · rw [if_neg hn] at hp1
    exact hp1.elim
end

/-! ### a field stored -/
def putI (f : Str) (y : IV) : List Str → List IV → Option (List Str × List IV)
  | [], [] => some ([f], [y])
  | h :: fs, x :: xs => if h = f then some (h :: fs, y :: xs) else (putI f y fs xs).map fun z => (h :: z.1, x :: z.2)
  | _, _ => none
theorem putI_rel {g : Gx} {F : Hp} {ρ : List Addr} {f : Str} {y : IV} {v : V} (ry : Rel g F ρ y v) : ∀ {fs : List Str} {xs : List IV} {vs : List V} {z : List Str × List IV}, fs.length = vs.length → RelL g F ρ xs vs → putI f y fs xs = some z → ∃ ws, putF f v (fs.zip vs) = z.1.zip ws ∧ z.1.length = ws.length ∧ RelL g F ρ z.2 ws
  | [], [], vs, z, hl, r, h => by
    simp only [RelL] at r
    subst r
    cases h
    exact ⟨[v], rfl, rfl, .cons ry .nil⟩
  | h :: fs, x :: xs, vs, z, hl, r, e => by
    simp only [RelL] at r
    obtain ⟨u, vs', rfl, r1, r2⟩ := r
    have hl' : fs.length = vs'.length := by simpa using hl
    unfold putI at e
    by_cases q : h = f
    · rw [if_pos q] at e
      cases e
      refine ⟨v :: vs', ?_, by simp [hl'], .cons ry r2⟩
      show putF f v ((h, u) :: fs.zip vs') = _
      unfold putF
      rw [if_pos q]
      rfl
    · rw [if_neg q] at e
      obtain ⟨z', e1, rfl⟩ := Option.map_eq_some_iff.mp e
      obtain ⟨ws, h1, h2, h3⟩ := putI_rel ry hl' r2 e1
      refine ⟨u :: ws, ?_, by simp [h2], .cons r1 h3⟩
      show putF f v ((h, u) :: fs.zip vs') = _
      unfold putF
      rw [if_neg q, h1]
      rfl
  | [], _ :: _, _, _, _, _, h => by cases h
  | _ :: _, [], _, _, _, _, h => by cases h
def stoI (c f : Str) (y x : IV) (cs : List Cell) : Option (List Cell) := match x with
  | .cell k => match cs[k]? with
    | some (.ins c' fs xs) => if c' = c ∧ fs.length < 1000 then (putI f y fs xs).map fun z => cs.set k (.ins c z.1 z.2) else none
    | _ => none
  | _ => none
/-- o.f = e -/
def sFld (c f : Str) (mo m : M IV) : SM := fun n σ cs => thenS (m n σ cs) σ fun y cs1 => thenS (mo n σ cs1) σ fun x cs2 => match stoI c f y x cs2 with
  | some cs3 => .next σ cs3
  | none => .stuck
section
variable {X : Cx} {n k : Nat} {W : WX} {c f m : Str} {ps : List Str} {dxs : List IV} {fm : FM} {p pos apos tpos : Pos} {e o : Expr} {es : List Expr} {me mo : M IV} {ma : M (List IV)}
theorem js_fld {C : Addr} (T : KlsG X.K X.mg c C) (hn : NoAttr X.K C f) (h : JE X n W e me) (ho : JE X n W o mo) (hs : swapsWith e (some (.Attribute o f tpos)) pos.line X.env = pure false := by rfl) : JS X n W (.Assign [.Attribute o f tpos] e pos) (SL.sFld c f mo me) := by
  refine ps_imp (ps_fld ho h hs) fun D σ H h => ?_
  obtain ⟨F, ρ, cs, σi, hs, hl, hp⟩ := h
  refine goS hs hl hp fun v H1 F1 ρ1 cs1 y st1 hs1 hl1 r1 hp1 => ?_
  refine goS hs1 hl1 hp1 fun w H2 F2 ρ2 cs2 x st2 hs2 hl2 r2 hp2 => ?_
  cases q : stoI c f y x cs2 with
  | none => rw [q] at hp2; exact hp2.elim
  | some cs3 =>
    rw [q] at hp2
    unfold stoI at q
    split at q
    · rename_i k'
      split at q
      · rename_i c' fs xs q1
        split at q
        · rename_i hc
          obtain ⟨rfl, hz⟩ := hc
          obtain ⟨z, hz1, rfl⟩ := Option.map_eq_some_iff.mp q
          simp only [Rel] at r2
          obtain ⟨a, rfl, h1⟩ := r2
          obtain ⟨C', dx, vs, hm, h2, hl', h3⟩ := hs2.ok k' _ a q1 h1
          have ec := T.gC.symm.trans hm
          cases ec
          obtain ⟨ws, k1, k2, k3⟩ := putI_rel (r1.stp st2) hl' h3 hz1
          obtain ⟨s1, s2⟩ := hs2.cell (c := .ins c' z.1 z.2) (o := .ins C dx (z.1.zip ws)) q1 (by intro z; cases z) h1 ⟨C, dx, ws, hm, rfl, k2, k3⟩ NoX.ins
          refine ⟨a, C, dx, _, rfl, h2, T.cls, hn, by rw [List.length_zip, ← hl', Nat.min_self]; exact hz, ?_⟩
          rw [k1]
          exact hp2.nextH s2.u s1 (hl2.stp s2) fun x z => .inl z
        · cases q
      · cases q
    · cases q

/-! ### methods and properties -/
/-- an instance of c without a field m -/
def isIn (c m : Str) (x : IV) (cs : List Cell) : Bool := match insI x cs with
  | some (c', fs, _) => c' == c && !fs.contains m
  | none => false
def eMeth (c m : Str) (fm : FM) (np : Nat) (dxs : List IV) (mo : M IV) (a : M (List IV)) : M IV := mo.bind fun x => fun n σ cs => if isIn c m x cs = true then
  (a n σ cs).then fun xs cs1 => if (x :: (xs ++ dxs)).length = np then fm n (x :: (xs ++ dxs)) cs1 else .stuck else .stuck
/-- the class c and its method m -/
def MethG (P : Program) (w : World) (K : PySem.W.Frag) (mg : Str → Option Value) (base : Heap) (n k : Nat) (c m : Str) (ps : List Str) (dxs : List IV) (fm : FM) : Prop :=
  ∃ C f fd ds dvs, KlsG K mg c C ∧ Meth K C m f ∧ Binds K fd ps ds ∧ Vals dvs ds ∧ (∀ F ρ, RelL (gK K mg) F ρ dxs dvs) ∧ FnG P w K mg base n k f fd ps fm
theorem lookup_none {fs : List Str} {vs : List V} (h : fs.contains m = false) : (fs.zip vs).lookup m = none := by
  induction fs generalizing vs with
  | nil => rfl
  | cons f fs ih =>
    cases vs with
    | nil => rfl
    | cons v vs =>
      rw [List.contains_cons, Bool.or_eq_false_iff] at h
      rw [List.zip_cons_cons, List.lookup_cons, h.1]
      exact ih h.2
theorem isIn_rel {g : Gx} {F : Hp} {ρ : List Addr} {H : Hp} {cs : List Cell} {x : IV} {v : V} {C : Addr} (hs : Sim g F ρ cs H) (r : Rel g F ρ x v) (hm : g.mg c = some (.ref C)) (h : isIn c m x cs = true) : ∃ a dx fs, v = .ref a ∧ H a = some (.ins C dx fs) ∧ fs.lookup m = none := by
  unfold isIn at h
  split at h
  · rename_i c' fs xs q
    simp only [Bool.and_eq_true, beq_iff_eq, Bool.not_eq_true'] at h
    obtain ⟨rfl, h2⟩ := h
    obtain ⟨a, C', dx, vs, rfl, hm', h3, h4, h5⟩ := ins_rel hs r q
    have e := hm.symm.trans hm'
    cases e
    exact ⟨a, dx, _, rfl, h3, lookup_none h2⟩
  · cases h
theorem je_meth {pl : Sem Bool} {np : Nat} (D : MethG X.prog X.w X.K X.mg X.base n k c m ps dxs fm) (hr : Room k X.A) (hgd : X.A.guards = some []) (tk : Takes X W) (ho : JE X n W o mo) (ha : JA X n W (e :: es) ma)
    (hst : starEach (e :: es) X.env = (false, eval e X.env) :: starEach es X.env := by rfl) (hpl : (backTo pos (starEach es X.env)).any (·.1) = false := by rfl)
    (ht : eval (.Call (.Attribute o m apos) (e :: es) [] pos) X.env = (do
      let ov ← eval o X.env
      standAt apos.atName
      let (f, first) ← holding [ov] (getMethod ov m pl)
      callWith pos f first (backTo pos (starEach (e :: es) X.env)) (backToKw pos (keywordEach [] X.env))) := by rfl) (hnp : ps.length = np := by rfl) :
    JE X n W (.Call (.Attribute o m apos) (e :: es) [] pos) (eMeth c m fm np dxs mo ma) := by
  subst hnp
  obtain ⟨C, f, fd, ds, dvs, T, hm, hb, hd, rd, G⟩ := D
  refine ⟨fun pins s σ H Q I h => ?_⟩
  refine PySem.W.methodCall_KW (pl := pl) (thn (ho.run pins s σ H (fun x H1 => ∃ a dx fs, x = .ref a ∧ H1 a = some (.ins C dx fs) ∧ fs.lookup m = none ∧ tG (gx X) n W (RelL (gx X)) ma σ H1 fun vs H2 => ∃ F ρ cs xs, Sim (gx X) F ρ cs H2 ∧ RelL (gx X) F ρ xs (x :: vs) ∧ (xs ++ dxs).length = ps.length ∧ Pst (gx X) W σ (Rel (gx X)) F ρ H2 (fm n (xs ++ dxs) cs) Q) I ?_) fun u s1 ⟨x, H1, I1, rx, a, dx, fs, ex, ea, l, q⟩ => ?_) ht
  · obtain ⟨F, ρ, cs, σi, hs, hl, hp⟩ := h
    refine go hs hl hp fun v H1 F1 ρ1 cs1 x st1 hs1 hl1 r1 hp1 => ?_
    replace hp1 : Pst (gx X) W σ (Rel (gx X)) F1 ρ1 H1 (if isIn c m x cs1 = true then (ma n σi cs1).then fun xs cs2 => if (x :: (xs ++ dxs)).length = ps.length then fm n (x :: (xs ++ dxs)) cs2 else .stuck else .stuck) Q := hp1
    split at hp1
    · rename_i hi
      obtain ⟨a, dx, fs, rfl, h1, h2⟩ := isIn_rel hs1 r1 T.gC hi
      refine ⟨a, dx, fs, rfl, h1, h2, ?_⟩
      refine go hs1 hl1 hp1 fun vs H2 F2 ρ2 cs2 xs st2 hs2 hl2 r2 hp2 => ?_
      split at hp2
      · rename_i hn
        exact ⟨F2, ρ2, cs2, x :: xs, hs2, .cons (r1.stp st2) r2, hn, hp2⟩
      · exact hp2.elim
    · exact hp1.elim
  · subst ex
    obtain rfl : u = Value.ref a := rx
    refine getmeth_ok I1 ea T.cls hm l ?_
    refine PySem.W.callWith_K (first := [.ref a]) (h₀ := X.base) I.ok.mod.kin hm.kp (thn (ha.run pos pins s1 σ H1 _ I1 q) fun us s2 ⟨vs, H2, I2, r, q2⟩ => ⟨I2.kIn, ?_⟩) hst hpl
    exact fn_run (us := .ref a :: us) (vs := .ref a :: vs) hb hd rd G hr hgd tk I2 (.cons rfl r) q2
theorem je_meth0 {pl : Sem Bool} {np : Nat} (D : MethG X.prog X.w X.K X.mg X.base n k c m ps dxs fm) (hr : Room k X.A) (hgd : X.A.guards = some []) (tk : Takes X W) (ho : JE X n W o mo)
    (ht : eval (.Call (.Attribute o m apos) [] [] pos) X.env = (do
      let ov ← eval o X.env
      standAt apos.atName
      let (f, first) ← holding [ov] (getMethod ov m pl)
      callWith pos f first (backTo pos (starEach [] X.env)) (backToKw pos (keywordEach [] X.env))) := by rfl) (hnp : ps.length = np := by rfl) :
    JE X n W (.Call (.Attribute o m apos) [] [] pos) (eMeth c m fm np dxs mo aNil) := by
  subst hnp
  obtain ⟨C, f, fd, ds, dvs, T, hm, hb, hd, rd, G⟩ := D
  refine ⟨fun pins s σ H Q I h => ?_⟩
  refine PySem.W.methodCall_KW (pl := pl) (thn (ho.run pins s σ H (fun x H1 => ∃ a dx fs, x = .ref a ∧ H1 a = some (.ins C dx fs) ∧ fs.lookup m = none ∧ ∃ F ρ cs xs, Sim (gx X) F ρ cs H1 ∧ RelL (gx X) F ρ xs [x] ∧ (xs ++ dxs).length = ps.length ∧ Pst (gx X) W σ (Rel (gx X)) F ρ H1 (fm n (xs ++ dxs) cs) Q) I ?_) fun u s1 ⟨x, H1, I1, rx, a, dx, fs, ex, ea, l, q⟩ => ?_) ht
  · obtain ⟨F, ρ, cs, σi, hs, hl, hp⟩ := h
    refine go hs hl hp fun v H1 F1 ρ1 cs1 x st1 hs1 hl1 r1 hp1 => ?_
    replace hp1 : Pst (gx X) W σ (Rel (gx X)) F1 ρ1 H1 (if isIn c m x cs1 = true then (if (x :: ([] ++ dxs)).length = ps.length then fm n (x :: ([] ++ dxs)) cs1 else .stuck) else .stuck) Q := hp1
    split at hp1
    · rename_i hi
      obtain ⟨a, dx, fs, rfl, h1, h2⟩ := isIn_rel hs1 r1 T.gC hi
      refine ⟨a, dx, fs, rfl, h1, h2, F1, ρ1, cs1, [x], hs1, .cons r1 .nil, ?_⟩
      replace hp1 : Pst (gx X) W σ (Rel (gx X)) F1 ρ1 H1 (if (x :: ([] ++ dxs)).length = ps.length then fm n (x :: ([] ++ dxs)) cs1 else .stuck) Q := hp1
      split at hp1
      · rename_i hn
        exact ⟨hn, hp1⟩
      · exact hp1.elim
    · exact hp1.elim
  · subst ex
    obtain rfl : u = Value.ref a := rx
    refine getmeth_ok I1 ea T.cls hm l ?_
    exact PySem.W.callWith_K0 (first := [.ref a]) I1.kIn hm.kp (fn_run (us := [.ref a]) (vs := [.ref a]) hb hd rd G hr hgd tk I1 (.cons rfl .nil) q)
/-- the class c and its property m, whose getter does as fm -/
def PropG (P : Program) (w : World) (K : PySem.W.Frag) (mg : Str → Option Value) (base : Heap) (n k : Nat) (c m : Str) (fm : FM) : Prop :=
  ∃ C p f fd ps, KlsG K mg c C ∧ PropOf K C m p f ∧ ps.length = 1 ∧ Binds K fd ps [] ∧ FnG P w K mg base n k f fd ps fm
def okR : Res IV → Res IV
  | .ok x cs => .ok x cs
  | _ => .stuck
def eProp (c m : Str) (fm : FM) (mo : M IV) : M IV := mo.bind fun x => fun n _ cs => if isIn c m x cs = true then okR (fm n [x] cs) else .stuck
theorem okR_out {g : Gx} {F : Hp} {ρ : List Addr} {H : Hp} {σ : St} {Q : VK} {r : Res IV} (h : Pst g W σ (Rel g) F ρ H (okR r) Q) : Pst g (fun _ _ _ _ => False) [] (Rel g) F ρ H r Q := by
  cases r with
  | ok x cs => exact h
  | ex e cs => exact h.elim
  | stuck => exact h
theorem je_prop (D : PropG X.prog X.w X.K X.mg X.base n k c m fm) (hr : Room (k + 1) X.A) (hgd : X.A.guards = some []) (ho : JE X n W o mo) (hab : attributeBase o m X.env (eval o X.env) = eval o X.env := by rfl) : JE X n W (.Attribute o m pos) (eProp c m fm mo) := by
  obtain ⟨C, p, f, fd, ps, T, hp, hl, hb, G⟩ := D
  refine ⟨fun pins s σ H Q I h => ?_⟩
  refine attr_of hab (thn (ho.run pins s σ H (fun x H1 => ∃ a dx fs, x = .ref a ∧ H1 a = some (.ins C dx fs) ∧ ∃ F ρ cs y, Sim (gx X) F ρ cs H1 ∧ Rel (gx X) F ρ y x ∧ Pst (gx X) (fun _ _ _ _ => False) [] (Rel (gx X)) F ρ H1 (fm n [y] cs) Q) I ?_) fun u s1 ⟨x, H1, I1, rx, a, dx, fs, ex, ea, q⟩ => ?_)
  · obtain ⟨F, ρ, cs, σi, hs, hl, hp⟩ := h
    refine go hs hl hp fun v H1 F1 ρ1 cs1 x st1 hs1 hl1 r1 hp1 => ?_
    replace hp1 : Pst (gx X) W σ (Rel (gx X)) F1 ρ1 H1 (if isIn c m x cs1 = true then okR (fm n [x] cs1) else .stuck) Q := hp1
    split at hp1
    · rename_i hi
      obtain ⟨a, dx, fs, rfl, h1, h2⟩ := isIn_rel hs1 r1 T.gC hi
      exact ⟨a, dx, fs, rfl, h1, F1, ρ1, cs1, x, hs1, r1, okR_out hp1⟩
    · exact hp1.elim
  · subst ex
    obtain rfl : u = Value.ref a := rx
    obtain ⟨F, ρ, cs, y, hs1, ry, q⟩ := q
    obtain ⟨mA, O, _, _, _, _⟩ := ins_get I1.hok ea
    obtain ⟨od, J, _⟩ := O.look
    obtain ⟨rest, hrec⟩ := hp.rec_
    have I2 := I1.tok (s1.toks + 1)
    have hc : (PySem.W.clsIn X.K C).isSome = true := by
      obtain ⟨cd, hc, _⟩ := PySem.W.any_some T.cls.hd
      rw [hc]
      rfl
    refine PySem.W.get_bind I1.kIn J (PySem.W.plainGet_of (T.cls.get m)).1 (PySem.W.findObj_data hc hp.at_ hp.get hp.tak) (PySem.W.plainGet_of (T.cls.get m)).2 (wpAny_call (PySem.W.prop_get (s := { s1 with toks := s1.toks + 1 }) I1.kIn hrec ?_))
    refine codeAny_mono (G.run X.A.in1 X.stack { s1 with toks := s1.toks + 1 } H1 ⟨[.ref a], []⟩ [.ref a] [.ref a] Q (fun _ _ _ => False) hr.in1 (by exact hgd) I2.env0.in1 (by simpa using hb { s1 with toks := s1.toks + 1 } [.ref a] I2.kIn (by rw [hl]; rfl)) (.cons rfl .nil) (by rw [hl]; rfl) ⟨F, ρ, cs, [y], hs1, .cons ry .nil, q.out fun _ _ _ z => z⟩) fun r s' hq => ?_
    cases r with
    | error er =>
      obtain ⟨_, _, _, _, _, _, _, _, _, _, _, _, z⟩ := hq
      exact z.elim
    | ok fl =>
      cases fl with
      | ret u =>
        obtain ⟨v, H', I3, rv, q3⟩ := I2.after hq
        show wpAny _ _ (handedOut u) _ _ _
        rw [PySem.W.handedOut_of (handed_of rv)]
        exact wpAny_pure ⟨v, H', I3, rv, q3⟩
      | next => exact False.elim hq
      | brk => exact False.elim hq
      | cont => exact False.elim hq
end
end SL

set_option Elab.async false
set_option linter.all false
set_option autoImplicit false
set_option maxRecDepth 100000
set_option maxHeartbeats 4000000
/-! SLDict: dicts that change, and what is read of dicts. -/
namespace SL
open PySem PySem.Spec L2
open PyProof.Rows hiding St
def kI : Key → IV
  | .inl i => .int i
  | .inr s => .str s
def dcI (x : IV) (cs : List Cell) : Option (List Key × List IV) := match x with
  | .dct ks xs => some (ks, xs)
  | .cell k => match cs[k]? with
    | some (.dct ks xs) => some (ks, xs)
    | _ => none
  | _ => none
section
variable {g : Gx} {F F' : Hp} {ρ ρ' : List Addr} {H H' : Hp} {cs : List Cell} {x y : IV} {v w : V} {ks : List Key} {xs : List IV}
theorem kI_rel {k : Key} : Rel g F ρ (kI k) (kV k) := by cases k <;> simp only [kI, kV, Rel]
theorem relK_zip {vs : List V} (hl : ks.length = vs.length) (r : RelL g F ρ xs vs) : RelK g F ρ (ks.zip xs) (ks.zip vs) := by
  have e := r.len
  refine ⟨?_, ?_⟩
  · rw [List.map_fst_zip (by omega), List.map_fst_zip (by omega)]
  · rw [List.map_snd_zip (by omega), List.map_snd_zip (by omega)]
    exact r
theorem dc_rel (hs : Sim g F ρ cs H) (r : Rel g F ρ x v) (h : dcI x cs = some (ks, xs)) : ∃ a vs, v = .ref a ∧ Rd H a (.dK (ks.zip vs)) ∧ ks.length = vs.length ∧ RelL g F ρ xs vs := by
  unfold dcI at h
  split at h
  · cases h
    simp only [Rel] at r
    obtain ⟨a, vs, rfl, hl, ⟨fo, h1⟩, h2⟩ := r
    exact ⟨a, vs, rfl, .inr ⟨fo, hs.fz _ _ h1⟩, hl, h2⟩
  · rename_i k
    split at h
    · rename_i q
      cases h
      simp only [Rel] at r
      obtain ⟨a, rfl, h1⟩ := r
      obtain ⟨vs, h2, hl, h3⟩ := hs.ok k _ a q h1
      exact ⟨a, vs, rfl, .inl h2, hl, h3⟩
    · cases h
  · cases h
theorem cell_last {p : Addr} {c : Cell} (hs : Sim g F ρ cs H) : Rel g F (ρ ++ [p]) (.cell cs.length) (.ref p) := by
  simp only [Rel]
  exact ⟨p, rfl, by rw [List.getElem?_append_right (by rw [hs.len]; exact Nat.le_refl _), hs.len, Nat.sub_self]; rfl⟩
/-- the heap has grown, some of the new stands still -/
theorem Sim.ext (hs : Sim g F ρ cs H) (e : ∀ b o, H b = some o → H' b = some o) (fF : ∀ b o, F b = some o → F' b = some o) (fn : ∀ b o, F' b = some o → F b = some o ∨ (H b = none ∧ H' b = some o ∧ ∀ ps, o ≠ .tbl ps)) : Sim g F' ρ cs H' ∧ Stp F ρ H F' ρ H' := by
  have at_ : ∀ a ∈ ρ, H' a = H a := fun a ha => by
    cases q : H a with
    | none => exact absurd q (hs.av a ha)
    | some o => exact e a o q
  refine ⟨⟨fun b o h => ?_, hs.len, hs.nd, fun a ha => by rw [at_ a ha]; exact hs.av a ha, fun n c a e1 e2 e3 => ?_, fun n c a e1 e2 => ?_, fun p hp => (hs.tb p hp).ext e, fun a ha => by rw [at_ a ha]; exact hs.nx a ha, fun a ps h => ?_⟩, ⟨fF, fun b h h' => ?_, ⟨[], by simp⟩, fun b h h' => absurd h h', fun b o h _ _ _ => e b o h, fun b h => ?_⟩⟩
  · rcases fn b o h with h | ⟨_, h, _⟩
    · exact e b o (hs.fz b o h)
    · exact h
  · cases q : F' a with
    | none => rfl
    | some o =>
      rcases fn a o q with h | ⟨h, _⟩
      · rw [hs.lv n c a e1 e2 e3] at h; cases h
      · exact absurd h (hs.av a (List.mem_of_getElem? e2))
  · rw [at_ a (List.mem_of_getElem? e2)]
    exact (hs.ok n c a e1 e2).mono fF ⟨[], by simp⟩
  · rcases fn a _ h with h | ⟨_, _, h⟩
    · exact hs.ft a ps h
    · exact h ps rfl
  · cases q : F' b with
    | none => exact absurd q h
    | some o =>
      rcases fn b o q with z | ⟨z, _⟩
      · rw [h'] at z; cases z
      · exact .inl z
  · cases q : H b with
    | none => exact absurd q h
    | some o => rw [e b o q]; intro z; cases z
end
/-- {} as a new cell -/
def eDis0 : M IV := fun _ _ cs => .ok (.cell cs.length) (cs ++ [.dct [] []])
/-- d[k] -/
def dixI (cs : List Cell) (x y : IV) : Option IV := (dcI x cs).bind fun z => (keyI y).bind fun k => valG (z.1.zip z.2) k
/-- d[k] = v -/
def dputI (x y v : IV) (cs : List Cell) : Option (List Cell) := match x with
  | .cell k => match cs[k]? with
    | some (.dct ks xs) => if ks.length < lim then (keyI y).map fun key => cs.set k (.dct ((putG (ks.zip xs) key v).map (·.1)) ((putG (ks.zip xs) key v).map (·.2))) else none
    | _ => none
  | _ => none
def sDPutI (mo mi m : M IV) : SM := fun n σ cs => thenS (m n σ cs) σ fun v cs1 => thenS (mo n σ cs1) σ fun x cs2 => thenS (mi n σ cs2) σ fun y cs3 => match dputI x y v cs3 with
  | some cs4 => .next σ cs4
  | none => .stuck
/-- d.get(k, v) -/
def dgI (x y z : IV) (cs : List Cell) : Option IV := (dcI x cs).bind fun w => (keyI y).map fun k => (valG (w.1.zip w.2) k).getD z
def eGetD (mo m mf : M IV) : M IV := mo.bind fun x => fun n σ cs => if (dcI x cs).isSome = true then ((m.bind fun y => mf.bind fun z => eCells (dgI x y z)) n σ cs) else .stuck
/-- list(d.items()) -/
def lisI (x : IV) (cs : List Cell) : Option IV := (dcI x cs).bind fun z => if z.1.length = z.2.length ∧ z.1.length ≤ lim then some (.lst ((z.1.zip z.2).map fun p => .tup [kI p.1, p.2])) else none
def eItems (mo : M IV) : M IV := mo.bind fun x => eCells (lisI x)
/-- a callee that gives a new object that may change -/
def eCallN (f : List Cell → List IV → Option Cell) (a : M (List IV)) : M IV := a.bind fun xs => fun _ _ cs => match f cs xs with
  | some c => .ok (.cell cs.length) (cs ++ [c])
  | none => .stuck
def prsT : List IV → Option (List (Key × IV))
  | [] => some []
  | .tup [k, x] :: r => match keyI k, prsT r with
    | some k, some r => some ((k, x) :: r)
    | _, _ => none
  | _ => none
def cellD (kvs : List (Key × IV)) : Cell := .dct (kvs.map (·.1)) (kvs.map (·.2))
/-- dict(x) -/
def fDict (cs : List Cell) : List IV → Option Cell
  | [.lst ps] => (prsT ps).map fun kvs => cellD (mergeG [] kvs)
  | [x] => (dcI x cs).map fun z => .dct z.1 z.2
  | _ => none
section
variable {X : Cx} {n : Nat} {W : WX} {a b c e o f : Expr} {es : List Expr} {m mo mi mf ma : M IV} {mr : M (List IV)} {pos : Pos}
theorem je_disC : JE X n W (.Dict [] [] pos) eDis0 := by
  refine pe_imp pe_dnewK fun σ H Q q => ?_
  obtain ⟨F, ρ, cs, σi, hs, hl, hp⟩ := q
  intro p hp0
  obtain ⟨c1, c2⟩ := hs.newC (c := .dct [] []) (o := .dK []) hp0 (fun _ _ => ⟨[], rfl, rfl, .nil⟩) NoX.dK
  exact hp F _ _ _ c2 c1 (cell_last (c := .dead) hs)
theorem je_dix (hu : X.A.units + 1 < cLine) (ho : JE X n W o mo) (hi : JE X n W e mi) (hs : NoSl e := by exact fun _ _ => rfl) : JE X n W (.Subscript o e pos) (e2c dixI mo mi) := by
  refine pe_imp (pe_dget hu ho hi hs) fun σ H Q q => ?_
  obtain ⟨F, ρ, cs, σi, hs, hl, hp⟩ := q
  refine go hs hl hp fun x H1 F1 ρ1 cs1 xi st1 hs1 hl1 rx hp1 => ?_
  refine go hs1 hl1 hp1 fun y H2 F2 ρ2 cs2 yi st2 hs2 hl2 ry hp2 => ?_
  obtain ⟨z, q, hq⟩ := pst_cells (f := fun cs => dixI cs xi yi) hp2
  obtain ⟨⟨ks, xs⟩, h1, h2⟩ := Option.bind_eq_some_iff.mp q
  obtain ⟨k, h3, h4⟩ := Option.bind_eq_some_iff.mp h2
  obtain ⟨a, vs, rfl, h5, h6, h7⟩ := dc_rel hs2 (rx.stp st2) h1
  have := keyI_rel ry h3
  subst this
  rcases (relK_zip h6 h7).val (k := k) with ⟨x', w, k1, k2, k3⟩ | ⟨k1, k2⟩
  · rw [h4] at k1
    cases k1
    exact ⟨a, w, rfl, .inl ⟨_, k, h5, rfl, k2.symm⟩, hq F2 ρ2 H2 w StpU.refl hs2 k3⟩
  · rw [h4] at k1; cases k1
theorem js_dput (hu : X.A.units + 1 < cLine) (ho : JE X n W o mo) (hi : JE X n W f mi) (hv : JE X n W e m) {p : Pos} (hs : swapsWith e (some (.Subscript o f p)) pos.line X.env = pure false := by rfl) : JS X n W (.Assign [.Subscript o f p] e pos) (sDPutI mo mi m) := by
  refine ps_imp (ps_dput hu ho hi hv hs) fun D σ H h => ?_
  obtain ⟨F, ρ, cs, σi, hs, hl, hp⟩ := h
  refine goS hs hl hp fun v H1 F1 ρ1 cs1 vi st1 hs1 hl1 r1 hp1 => ?_
  refine goS hs1 hl1 hp1 fun x H2 F2 ρ2 cs2 xi st2 hs2 hl2 r2 hp2 => ?_
  refine goS hs2 hl2 hp2 fun y H3 F3 ρ3 cs3 yi st3 hs3 hl3 r3 hp3 => ?_
  cases q : dputI xi yi vi cs3 with
  | none => rw [q] at hp3; exact hp3.elim
  | some cs4 =>
    rw [q] at hp3
    unfold dputI at q
    split at q
    · rename_i k'
      split at q
      · rename_i ks xs q1
        split at q
        · rename_i hz
          obtain ⟨key, h1, rfl⟩ := Option.map_eq_some_iff.mp q
          have rx := r2.stp st3
          simp only [Rel] at rx
          obtain ⟨a, rfl, h2⟩ := rx
          obtain ⟨vs, h3, h4, h5⟩ := hs3.ok k' _ a q1 h2
          have := keyI_rel r3 h1
          subst this
          have rk := (relK_zip h4 h5).put (k := key) ((r1.stp st2).stp st3)
          have hlen : (ks.zip vs).length < lim := by rw [List.length_zip, ← h4, Nat.min_self]; exact hz
          obtain ⟨s1, s2⟩ := hs3.cell (c := .dct ((putG (ks.zip xs) key vi).map (·.1)) ((putG (ks.zip xs) key vi).map (·.2))) (o := .dK (putK (ks.zip vs) key v)) q1 (by intro z; cases z) h2
            ⟨(putK (ks.zip vs) key v).map (·.2), by rw [rk.1, zip_maps], by rw [List.length_map, List.length_map]; have := congrArg List.length rk.1; simpa using this, rk.2⟩ NoX.dK
          exact ⟨a, _, rfl, .inl ⟨_, key, h3, rfl, Nat.lt_of_lt_of_le hlen (by decide), rfl⟩, hp3.nextH s2.u s1 (hl3.stp s2) fun x z => .inl z⟩
        · cases q
      · cases q
    · cases q
theorem je_getD {ap cp : Pos} (hu : X.A.units + 1 < cLine) (ho : JE X n W o mo) (he : JE X n W e m) (hf : JE X n W f mf) (m2 : M2 X o "get" ap e f cp := by exact ⟨rfl, rfl, rfl, rfl⟩) : JE X n W (.Call (.Attribute o "get" ap) [e, f] [] cp) (eGetD mo m mf) := by
  refine pe_imp (pe_dget2 hu ho he hf m2) fun σ H Q q => ?_
  obtain ⟨F, ρ, cs, σi, hs, hl, hp⟩ := q
  refine go hs hl hp fun x H1 F1 ρ1 cs1 xi st1 hs1 hl1 r1 hp1 => ?_
  replace hp1 : Pst (gx X) W σ (Rel (gx X)) F1 ρ1 H1 (if (dcI xi cs1).isSome = true then ((m.bind fun y => mf.bind fun z => eCells (dgI xi y z)) n σi cs1) else .stuck) Q := hp1
  split at hp1
  · rename_i hd
    obtain ⟨⟨ks0, xs0⟩, hd⟩ := Option.isSome_iff_exists.mp hd
    obtain ⟨a, vs0, rfl, h1, h2, h3⟩ := dc_rel hs1 r1 hd
    refine ⟨a, rfl, .inl ⟨_, h1⟩, ?_⟩
    refine go hs1 hl1 hp1 fun y H2 F2 ρ2 cs2 yi st2 hs2 hl2 r2 hp2 => ?_
    refine go hs2 hl2 hp2 fun zv H3 F3 ρ3 cs3 zi st3 hs3 hl3 r3 hp3 => ?_
    obtain ⟨z, hz, hq⟩ := pst_cells (f := dgI xi yi zi) hp3
    obtain ⟨⟨ks, xs⟩, k1, k2⟩ := Option.bind_eq_some_iff.mp hz
    obtain ⟨k, k3, k4⟩ := Option.map_eq_some_iff.mp k2
    obtain ⟨a', vs, ea, k5, k6, k7⟩ := dc_rel hs3 ((r1.stp st2).stp st3) k1
    cases ea
    have := keyI_rel (r2.stp st3) k3
    subst this
    refine ⟨_, .inl ⟨_, k, k5, rfl, rfl⟩, ?_⟩
    rcases (relK_zip k6 k7).val (k := k) with ⟨x', w, l1, l2, l3⟩ | ⟨l1, l2⟩
    · have ez : z = x' := by
        rw [← k4]
        show (valG (ks.zip xs) k).getD zi = x'
        rw [l1]; rfl
      subst ez
      rw [l2]
      exact hq F3 ρ3 H3 _ StpU.refl hs3 l3
    · have ez : z = zi := by
        rw [← k4]
        show (valG (ks.zip xs) k).getD zi = zi
        rw [l1]; rfl
      subst ez
      rw [l2]
      exact hq F3 ρ3 H3 _ StpU.refl hs3 r3
  · exact hp1.elim
theorem paired_imp {α β : Type} {R S : α → β → Prop} : ∀ {l : List α} {r : List β}, Paired R l r → (∀ t q, t ∈ l → R t q → S t q) → Paired S l r
  | _, _, .nil, _ => .nil
  | _, _, .cons h t, k => .cons (k _ _ (by simp) h) (paired_imp t fun a b ha => k a b (by simp [ha]))
theorem paired_len {α β : Type} {R : α → β → Prop} {l : List α} {r : List β} (h : Paired R l r) : l.length = r.length := h.length
theorem items_rel {g : Gx} {F F' : Hp} {ρ : List Addr} : ∀ {ts : List Addr} {ks : List Key} {vs : List V} {xs : List IV}, (∀ a o, F a = some o → F' a = some o) → ks.length = vs.length → RelL g F ρ xs vs → Paired (fun (t : Addr) (q : Key × V) => F' t = some (.tup [kV q.1, q.2])) ts (ks.zip vs) → RelL g F' ρ ((ks.zip xs).map fun p => .tup [kI p.1, p.2]) (ts.map V.ref)
  | ts, [], vs, xs, hf, hl, r, h => by
    cases h
    simp only [List.zip_nil_left, List.map_nil]
    exact .nil
  | ts, k :: ks, vs, xs, hf, hl, r, h => by
    cases vs with
    | nil => simp at hl
    | cons v vs =>
      cases xs with
      | nil => have := r.len; simp at this
      | cons x xs =>
        simp only [RelL] at r
        obtain ⟨v', vs', e, r1, r2⟩ := r
        cases e
        rw [List.zip_cons_cons] at h
        cases h with
        | cons h1 h2 =>
          rename_i t ts
          simp only [List.zip_cons_cons, List.map_cons]
          refine .cons ?_ (items_rel hf (by simpa using hl) r2 h2)
          simp only [Rel]
          exact ⟨t, _, rfl, .inl (.inl h1), .cons kI_rel (.cons (r1.mono hf ⟨[], by simp⟩) .nil)⟩
/-- list(e.items()), of a dict that may stand still -/
def tListItR (te : TE) : TE := fun σ H Q => te σ H fun x H1 => ∃ (d : Addr) (kvs : List (Key × V)), x = .ref d ∧ Rd H1 d (.dK kvs) ∧
  ∀ (H' : Hp) (p : Addr) (ts : List Addr), (∀ b o, H1 b = some o → H' b = some o) → H1 p = none → (∀ t ∈ ts, H1 t = none) → p ∉ ts → H' p = some (.lst (ts.map V.ref)) → Paired (fun (t : Addr) (q : Key × V) => H' t = some (.tup [kV q.1, q.2])) ts kvs → Q (.ref p) H'
theorem pe_listItR {te : TE} {p apos cpos : Pos} (hc : X.calm = true) (he : PE X e te) (hg : Gl X "list") (hm : X.mg "list" = none) (hv : bootBuiltins "list" = some (.type "list")) (hbase : attributeBase e "items" X.env (eval e X.env) = eval e X.env) (hline : (apos.endLine == cpos.line) = true)
    (hs : starEach [.Call (.Attribute e "items" apos) [] [] cpos] X.env = (false, eval (.Call (.Attribute e "items" apos) [] [] cpos) X.env) :: starEach [] X.env) :
    PE X (.Call (.Name "list" p) [.Call (.Attribute e "items" apos) [] [] cpos] [] pos) (tListItR te) := by
  refine ⟨fun pins s σ H Q I hq => ?_⟩
  refine wpAny_Call_Name_kw (ld_blt I hg hm hv (PyProof.Rows.callWith_type1 ?_ hs rfl))
  rw [hs]
  refine Calls.spliced_cons (wpAny_Call_method (T := "dict") (id := "dict.items") hbase rfl hline F.plainAttrs_dict F.slot_dict_items F.type_dict_items (thn (he.run pins s σ H _ I hq) fun u s1 ⟨x, H1, I1, rx, d, kvs, ex, hd, q⟩ => ?_))
  subst ex
  obtain rfl : u = Value.ref d := rx
  obtain ⟨hz, h0, vs, kv, dd⟩ := dk_rd I1.hok hd
  obtain ⟨ep, hat⟩ := dd.dictAt
  have hlen : kvs.length = vs.length := paired_len kv
  have I2 : Inv X pins σ H1 { s1 with heap := s1.heap.push { cls := .type "dict_items", data := .fields #[.ref d] } } := I1.kept (t' := s1.toks) fun _ _ z => Heap.get?_push_of_some _ z
  refine ⟨dd.typeIs, dd.mapOf.noDict, ?_⟩
  show wpAny _ _ (callWith cpos (.builtin "dict.items") [.ref d] [] []) _ X.xe s1
  refine method_meetsIn F.slot_dict_items F.entry_dict_items rfl (PySem.evalArgs_none ⟨rfl, dd.typeIs, F.args_dict_items_1 _, _, meets_dict_items (mixKind X.prog X.w) d h0, ⟨vs, dd⟩, Calls.spliced_nil ?_⟩)
  refine PySem.W.kdx_call (knd := mixKind X.prog X.w) (kvs := vs) (ep := ep) (I1.ok.hd hc) ⟨_, Heap.get?_push_size _ rfl, rfl, rfl⟩ (hat.push _) (by omega) fun h' tk acc c ts k0 k1 k2 k3 k4 => ?_
  obtain ⟨H', z1, z2, z3, z4, z5, z6, J⟩ := LiI.items_laid (tk := tk) I2 hz kv k0 k1 k2 k3 k4
  exact ⟨.ref _, H', J, rfl, q H' _ ts z1 z2 z3 z4 z5 z6⟩
theorem je_items {p apos cpos : Pos} (hc : X.calm = true) (ho : JE X n W e mo) (hm : X.mg "list" = none) (hv : bootBuiltins "list" = some (.type "list")) (hg : Gl X "list" := by rfl) (hbase : attributeBase e "items" X.env (eval e X.env) = eval e X.env := by rfl) (hline : (apos.endLine == cpos.line) = true := by rfl)
    (hs : starEach [.Call (.Attribute e "items" apos) [] [] cpos] X.env = (false, eval (.Call (.Attribute e "items" apos) [] [] cpos) X.env) :: starEach [] X.env := by rfl) :
    JE X n W (.Call (.Name "list" p) [.Call (.Attribute e "items" apos) [] [] cpos] [] pos) (eItems mo) := by
  refine pe_imp (pe_listItR hc ho hg hm hv hbase hline hs) fun σ H Q q => ?_
  obtain ⟨F, ρ, cs, σi, hs, hl, hp⟩ := q
  refine go hs hl hp fun v H1 F1 ρ1 cs1 x st1 hs1 hl1 r1 hp1 => ?_
  obtain ⟨z, hz, hq⟩ := pst_cells (f := lisI x) hp1
  obtain ⟨⟨ks, xs⟩, h1, h2⟩ := Option.bind_eq_some_iff.mp hz
  split at h2
  · cases h2
    obtain ⟨d, vs, rfl, h3, h4, h5⟩ := dc_rel hs1 r1 h1
    refine ⟨d, _, rfl, h3, fun H' p ts k1 k2 k3 k4 k5 k6 => ?_⟩
    have nt : ∀ t ∈ ts, ∃ q : Key × V, H' t = some (.tup [kV q.1, q.2]) := fun t ht => by
      obtain ⟨j, hj⟩ := List.getElem?_of_mem ht
      obtain ⟨q, _, e⟩ := paired_get k6 hj
      exact ⟨q, e⟩
    let F' : Hp := fun b => if b = p ∨ b ∈ ts then H' b else F1 b
    have fnone : ∀ b, (b = p ∨ b ∈ ts) → F1 b = none := fun b hb => by
      cases q : F1 b with
      | none => rfl
      | some o =>
        have := hs1.fz b o q
        rcases hb with rfl | hb
        · rw [k2] at this; cases this
        · rw [k3 b hb] at this; cases this
    have fF : ∀ b o, F1 b = some o → F' b = some o := fun b o h => by
      show (if b = p ∨ b ∈ ts then H' b else F1 b) = _
      rw [if_neg (fun z => by rw [fnone b z] at h; cases h)]
      exact h
    obtain ⟨s1, s2⟩ := hs1.ext (F' := F') (H' := H') k1 fF (fun b o h => by
      replace h : (if b = p ∨ b ∈ ts then H' b else F1 b) = some o := h
      split at h
      · rename_i hb
        refine .inr ⟨?_, h, fun ps z => ?_⟩
        · rcases hb with rfl | hb
          · exact k2
          · exact k3 b hb
        · subst z
          rcases hb with rfl | hb
          · rw [k5] at h; cases h
          · obtain ⟨q, e⟩ := nt b hb
            rw [e] at h; cases h
      · exact .inl h)
    refine hq F' ρ1 H' _ s2 s1 ?_
    simp only [Rel]
    have hP : Paired (fun (t : Addr) (q : Key × V) => F' t = some (.tup [kV q.1, q.2])) ts (ks.zip vs) := paired_imp k6 fun t q ht e => by
      show (if t = p ∨ t ∈ ts then H' t else F1 t) = _
      rw [if_pos (.inr ht), e]
    have hL : F' p = some (.lst (ts.map V.ref)) := by
      show (if p = p ∨ p ∈ ts then H' p else F1 p) = _
      rw [if_pos (.inl rfl), k5]
    exact ⟨p, ts.map V.ref, rfl, hL, items_rel fF h4 h5 hP⟩
  · cases h2
/-- [..] as a new cell -/
def eLstC (a : M (List IV)) : M IV := a.bind fun xs => fun _ _ cs => if xs.length ≤ lim then .ok (.cell cs.length) (cs ++ [.lst xs]) else .stuck
theorem je_lstC (h : JA X n W es mr) : JE X n W (.List es pos) (eLstC mr) := by
  refine pe_imp (pe_lst h) fun σ H Q q => ?_
  obtain ⟨F, ρ, cs, σi, hs, hl, hp⟩ := q
  refine go hs hl hp fun vs H1 F1 ρ1 cs1 xs st1 hs1 hl1 r1 hp1 => ?_
  replace hp1 : Pst (gx X) W σ (Rel (gx X)) F1 ρ1 H1 (if xs.length ≤ lim then .ok (.cell cs1.length) (cs1 ++ [.lst xs]) else .stuck) Q := hp1
  split at hp1
  · rename_i hle
    refine ⟨lim_le (by rw [← r1.len]; exact hle), fun p hp => ?_⟩
    obtain ⟨c1, c2⟩ := hs1.newC (c := .lst xs) (o := .lst vs) hp (fun ρ' hr => ⟨vs, rfl, r1.mono (fun _ _ h => h) hr⟩) NoX.lst
    exact hp1 F1 _ _ _ c2 c1 (cell_last (c := .dead) hs1)
  · exact hp1.elim
/-! ### new cells by a callee -/
def rCN (g : Gx) (f : List Cell → List IV → Option Cell) : List V → Hp → VK → Prop := fun vs H Q => ∃ F ρ cs xs c, Sim g F ρ cs H ∧ RelL g F ρ xs vs ∧ f cs xs = some c ∧ ∀ F' ρ' H' v, Stp F ρ H F' ρ' H' → Sim g F' ρ' (cs ++ [c]) H' → Rel g F' ρ' (.cell cs.length) v → Q v H'
theorem eCallN_run {g : Gx} {f : List Cell → List IV → Option Cell} {σ : St} {H : Hp} {Q : VK} (h : tG g n W (Rel g) (eCallN f mr) σ H Q) : tCB (rCN g f) (tG g n W (RelL g) mr) σ H Q := by
  obtain ⟨F, ρ, cs, σi, hs, hl, hp⟩ := h
  refine go hs hl hp fun vs H1 F1 ρ1 cs1 xs st1 hs1 hl1 r1 hp1 => ?_
  replace hp1 : Pst g W σ (Rel g) F1 ρ1 H1 (match f cs1 xs with | some c => .ok (.cell cs1.length) (cs1 ++ [c]) | none => .stuck) Q := hp1
  cases e : f cs1 xs with
  | none => rw [e] at hp1; exact hp1.elim
  | some c => rw [e] at hp1; exact ⟨F1, ρ1, cs1, xs, c, hs1, r1, e, hp1⟩
theorem je_callTyN {x : Str} {p : Pos} {T : String} {f : List Cell → List IV → Option Cell} (hc : CallR X (.type T) (rCN (gx X) f)) (hm : X.mg x = none) (hv : bootBuiltins x = some (.type T)) (ha : JA X n W (a :: es) mr) (hg : Gl X x := by rfl) (hn : x ≠ "__name__" := by decide)
    (hdb : (x == ("__debug__" : Str)) = false := by decide) (he : starEach (a :: es) X.env = (false, eval a X.env) :: starEach es X.env := by rfl) (hpl : (backTo pos (starEach es X.env)).any (·.1) = false := by rfl) : JE X n W (.Call (.Name x p) (a :: es) [] pos) (eCallN f mr) :=
  pe_imp (pe_callTy hc hg hm hv ha hn hdb he hpl) fun σ H Q q => eCallN_run q
theorem dct_cell {g : Gx} {F : Hp} {ρ : List Addr} {kvs : List (Key × IV)} {ws : List (Key × V)} (r : RelK g F ρ kvs ws) : RelC g F ρ (cellD kvs) (some (.dK ws)) := by
  refine ⟨ws.map (·.2), ?_, ?_, r.2⟩
  · rw [r.1, zip_maps]
  · have := congrArg List.length r.1
    rw [List.length_map, List.length_map]; simpa using this
theorem RelK.mono {g : Gx} {F F' : Hp} {ρ ρ' : List Addr} {kvs : List (Key × IV)} {ws : List (Key × V)} (r : RelK g F ρ kvs ws) (s : ∀ a o, F a = some o → F' a = some o) (p : ∃ t, ρ' = ρ ++ t) : RelK g F' ρ' kvs ws := ⟨r.1, r.2.mono s p⟩
theorem pairs_rel {g : Gx} {F : Hp} {ρ : List Addr} {H : Hp} (hf : ∀ a o, F a = some o → H a = some o) : ∀ {ps : List IV} {vs : List V} {kvs : List (Key × IV)}, RelL g F ρ ps vs → prsT ps = some kvs → ∃ (as : List Addr) (ws : List (Key × V)), vs = as.map V.ref ∧ Paired (fun p kv => SqT g.K H p [kV kv.1, kv.2]) as ws ∧ RelK g F ρ kvs ws
  | [], vs, kvs, r, h => by
    simp only [RelL] at r
    subst r
    cases h
    exact ⟨[], [], rfl, .nil, .nil⟩
  | p :: ps, vs, kvs, r, h => by
    simp only [RelL] at r
    obtain ⟨v, vs', rfl, r1, r2⟩ := r
    unfold prsT at h
    split at h
    · rename_i e
      cases e
    · rename_i k x r' e
      cases e
      split at h
      · rename_i key rest e1 e2
        cases h
        obtain ⟨as, ws, h1, h2, h3⟩ := pairs_rel hf r2 e2
        simp only [Rel] at r1
        obtain ⟨a, us, rfl, q1, q2⟩ := r1
        obtain ⟨u1, u2, rfl, q3, q4⟩ := relL2 q2
        have := keyI_rel q3 e1
        subst this
        exact ⟨a :: as, (key, u2) :: ws, by rw [h1]; rfl, .cons (sqT_mono hf q1) h2, .cons q4 h3⟩
      · cases h
    · cases h
theorem cj_dict (hc : X.calm = true) : CallR X (.type "dict") (rCN (gx X) fDict) := by
  intro pins s σ H vs us Q I r h
  obtain ⟨F, ρ, cs, xs, c, hs, hx, hf, q⟩ := h
  unfold fDict at hf
  split at hf
  · rename_i ps
    obtain ⟨kvs, h1, rfl⟩ := Option.map_eq_some_iff.mp hf
    obtain ⟨v, rfl, h2⟩ := relL1 hx
    simp only [Rel] at h2
    obtain ⟨a, ws, rfl, h3, h4⟩ := h2
    obtain ⟨as, kws, rfl, h5, h6⟩ := pairs_rel hs.fz h4 h1
    refine call_dictP hc pins s σ H _ us Q I r ⟨a, as, kws, rfl, .inl (.inl (hs.fz _ _ h3)), h5, fun p hp => ?_⟩
    obtain ⟨s1, s2⟩ := hs.newC (c := cellD (mergeG [] kvs)) (o := .dK (mergeK [] kws)) hp (fun ρ' hr => dct_cell ((h6.merge .nil).mono (fun _ _ h => h) hr)) NoX.dK
    exact q F _ _ _ s2 s1 (cell_last (c := .dead) hs)
  · rename_i x _
    obtain ⟨⟨ks, ys⟩, h1, rfl⟩ := Option.map_eq_some_iff.mp hf
    obtain ⟨v, rfl, h2⟩ := relL1 hx
    obtain ⟨a, ws, rfl, h3, h4, h5⟩ := dc_rel hs h2 h1
    refine call_dictD pins s σ H _ us Q I r ⟨a, _, rfl, h3, fun p hp => ?_⟩
    obtain ⟨s1, s2⟩ := hs.newC (c := .dct ks ys) (o := .dK (ks.zip ws)) hp (fun ρ' hr => ⟨ws, rfl, h4, h5.mono (fun _ _ h => h) hr⟩) NoX.dK
    exact q F _ _ _ s2 s1 (cell_last (c := .dead) hs)
  · cases hf
end
end SL

set_option Elab.async false
set_option linter.all false
set_option autoImplicit false
set_option maxRecDepth 100000
set_option maxHeartbeats 4000000
/-! SLDict2: dicts walked, sorted, made by a comprehension. -/
namespace SL
open PySem PySem.Spec L2
open PyProof.Rows hiding St
def itemsI : IV → Option (List IV)
  | .dct ks xs => if ks.length = xs.length then some ((ks.zip xs).map fun p => .tup [kI p.1, p.2]) else none
  | _ => none
def keysI : IV → Option (List IV)
  | .dct ks xs => if ks.length = xs.length then some (ks.map kI) else none
  | _ => none
def mItems (m : M IV) : M (List IV) := m.bind fun x => M.opt (itemsI x)
def mKeys (m : M IV) : M (List IV) := m.bind fun x => M.opt (keysI x)
section
variable {X : Cx} {n : Nat} {W : WX} {tg e a b : Expr} {m : M IV} {ma : M (List IV)} {apos cpos pos : Pos} {g : Gx} {F : Hp} {ρ : List Addr}
theorem ri_keys {ks : List Key} {vs : List V} {d : Addr} {o : Obj} (h : F d = some (.frz o (.dK (ks.zip vs)))) (hl : ks.length = vs.length) : RI g F ρ (ks.map kI) (Itk d o (ks.zip vs)) := by
  intro F' ρ' cs' H' hf hr hs
  have hd := hs.fz _ _ (hf _ _ h)
  have hz : (ks.zip vs).length = ks.length := by rw [List.length_zip, ← hl, Nat.min_self]
  refine ⟨fun i x e => ?_, ⟨hd, by rw [List.length_map, hz]; exact Nat.le_refl _⟩⟩
  rw [List.getElem?_map] at e
  obtain ⟨k, e1, rfl⟩ := Option.map_eq_some_iff.mp e
  have hi := (List.getElem?_eq_some_iff.mp e1).1
  refine ⟨⟨hd, by omega⟩, fun v H'' y => ?_⟩
  obtain ⟨rfl, k', v', e2, rfl⟩ := y
  have : (ks.zip vs)[i]?.map (·.1) = some k := by
    rw [← List.getElem?_map, List.map_fst_zip (by omega), e1]
  rw [e2] at this
  cases this
  exact ⟨F', StpU.refl, hs, kI_rel⟩
theorem ri_items {ks : List Key} {xs : List IV} {vs : List V} {d : Addr} {o : Obj} (h : F d = some (.frz o (.dK (ks.zip vs)))) (hl : ks.length = vs.length) (r : RelL g F ρ xs vs) : RI g F ρ ((ks.zip xs).map fun p => .tup [kI p.1, p.2]) (Iti d o (ks.zip vs)) := by
  intro F' ρ' cs' H' hf hr hs
  have hd := hs.fz _ _ (hf _ _ h)
  have hx := r.len
  have hz : (ks.zip vs).length = ks.length := by rw [List.length_zip, ← hl, Nat.min_self]
  have hz2 : (ks.zip xs).length = ks.length := by rw [List.length_zip, hx, ← hl, Nat.min_self]
  have r' := r.mono hf hr
  refine ⟨fun i x e => ?_, ⟨hd, by rw [List.length_map, hz, hz2]; exact Nat.le_refl _⟩⟩
  rw [List.getElem?_map] at e
  obtain ⟨⟨k, x'⟩, e1, rfl⟩ := Option.map_eq_some_iff.mp e
  have hi := (List.getElem?_eq_some_iff.mp e1).1
  have ek : ks[i]? = some k := by
    have := congrArg (Option.map (·.1)) e1
    rw [← List.getElem?_map, List.map_fst_zip (by omega)] at this
    exact this
  have ex : xs[i]? = some x' := by
    have := congrArg (Option.map (·.2)) e1
    rw [← List.getElem?_map, List.map_snd_zip (by omega)] at this
    exact this
  obtain ⟨v, ev, rv⟩ := r'.get ex
  refine ⟨⟨hd, by omega⟩, fun w H'' y => ?_⟩
  obtain ⟨T, k', v', e2, rfl, hT, rfl⟩ := y
  have k1 : (ks.zip vs)[i]?.map (·.1) = some k := by rw [← List.getElem?_map, List.map_fst_zip (by omega), ek]
  have k2 : (ks.zip vs)[i]?.map (·.2) = some v := by rw [← List.getElem?_map, List.map_snd_zip (by omega), ev]
  rw [e2] at k1 k2
  cases k1
  cases k2
  obtain ⟨s1, s2⟩ := hs.new (o := .tup [kV k', v']) hT
  refine ⟨_, s2, s1, ?_⟩
  simp only [Rel]
  exact ⟨T, _, rfl, .inl (.inl upd_same), .cons kI_rel (.cons (rv.stp s2) .nil)⟩
theorem ji_items {elts : List Expr} {kk : Nat} {tpos : Pos} (h : JE X n W e m) (hbase : attributeBase e "items" X.env (eval e X.env) = eval e X.env := by rfl) (hline : (apos.endLine == cpos.line) = true := by rfl) : JI X n W (.Tuple elts kk tpos) (.Call (.Attribute e "items" apos) [] [] cpos) (mItems m) := by
  refine pi_imp (pi_items h hbase hline) fun σ H R q => ?_
  obtain ⟨F, ρ, cs, σi, hs, hl, hp⟩ := q
  refine go hs hl hp fun v H1 F1 ρ1 cs1 x st1 hs1 hl1 r1 hp1 => ?_
  obtain ⟨z, hz, hq⟩ := pst_opt hp1
  unfold itemsI at hz
  split at hz
  · split at hz
    · cases hz
      simp only [Rel] at r1
      obtain ⟨d, vs, rfl, hl', ⟨o, h1⟩, h2⟩ := r1
      exact ⟨d, o, _, rfl, hs1.fz _ _ h1, hq F1 ρ1 H1 _ StpU.refl hs1 (ri_items h1 hl' h2)⟩
    · cases hz
  · cases hz
theorem ji_keys (h : JE X n W e m) : JI X n W tg e (mKeys m) := by
  refine pi_imp (pi_keys h) fun σ H R q => ?_
  obtain ⟨F, ρ, cs, σi, hs, hl, hp⟩ := q
  refine go hs hl hp fun v H1 F1 ρ1 cs1 x st1 hs1 hl1 r1 hp1 => ?_
  obtain ⟨z, hz, hq⟩ := pst_opt hp1
  unfold keysI at hz
  split at hz
  · split at hz
    · cases hz
      simp only [Rel] at r1
      obtain ⟨d, vs, rfl, hl', ⟨o, h1⟩, h2⟩ := r1
      exact ⟨d, o, rfl, .inl ⟨_, hs1.fz _ _ h1, hq F1 ρ1 H1 _ StpU.refl hs1 (ri_keys h1 hl')⟩⟩
    · cases hz
  · cases hz
end

/-! ### the order of texts -/
def leN : List Nat → List Nat → Bool := fun a b => !ltCps b a
theorem lt_irr : ∀ a : List Nat, ltCps a a = false
  | [] => rfl
  | x :: r => by simp [ltCps, lt_irr r]
theorem lt_cases : ∀ a b : List Nat, ltCps a b = true ∨ a = b ∨ ltCps b a = true
  | [], [] => .inr (.inl rfl)
  | [], _ :: _ => .inl rfl
  | _ :: _, [] => .inr (.inr rfl)
  | x :: r, y :: t => by
    rcases Nat.lt_trichotomy x y with h | h | h
    · left; simp [ltCps, h]
    · subst h
      rcases lt_cases r t with h | h | h
      · left; simp [ltCps, h]
      · right; left; rw [h]
      · right; right; simp [ltCps, h]
    · right; right; simp [ltCps, h]
theorem lt_trans : ∀ a b c : List Nat, ltCps a b = true → ltCps b c = true → ltCps a c = true
  | [], [], _, h, _ => by cases h
  | [], _ :: _, [], _, h => by cases h
  | [], _ :: _, _ :: _, _, _ => rfl
  | _ :: _, [], _, h, _ => by cases h
  | _ :: _, _ :: _, [], _, h => by cases h
  | x :: r, y :: t, z :: u, h1, h2 => by
    simp only [ltCps, Bool.or_eq_true, decide_eq_true_eq, Bool.and_eq_true, beq_iff_eq] at h1 h2 ⊢
    rcases h1 with h1 | ⟨rfl, h1⟩
    · rcases h2 with h2 | ⟨rfl, h2⟩
      · left; omega
      · left; exact h1
    · rcases h2 with h2 | ⟨rfl, h2⟩
      · left; exact h2
      · right; exact ⟨rfl, lt_trans r t u h1 h2⟩
theorem lt_asym {a b : List Nat} (h : ltCps a b = true) : ltCps b a = false := by
  cases q : ltCps b a with
  | false => rfl
  | true => have := lt_trans a b a h q; rw [lt_irr] at this; cases this
def leS (a b : Str) : Prop := ltCps b.cps.toList a.cps.toList = false
theorem str_cps {a b : Str} (h : a.cps.toList = b.cps.toList) : a = b := by
  cases a; cases b
  congr 1
  exact Array.toList_inj.mp h
theorem leS_anti {a b : Str} (h1 : leS a b) (h2 : leS b a) : a = b := by
  rcases lt_cases a.cps.toList b.cps.toList with h | h | h
  · rw [show ltCps a.cps.toList b.cps.toList = false from h2] at h; cases h
  · exact str_cps h
  · rw [show ltCps b.cps.toList a.cps.toList = false from h1] at h; cases h
theorem leS_total (a b : Str) : leS a b ∨ leS b a := by
  cases h : ltCps b.cps.toList a.cps.toList with
  | false => exact .inl h
  | true => exact .inr (lt_asym h)
theorem leS_trans {a b c : Str} (h1 : leS a b) (h2 : leS b c) : leS a c := by
  unfold leS at *
  cases h : ltCps c.cps.toList a.cps.toList with
  | false => rfl
  | true =>
    rcases lt_cases b.cps.toList a.cps.toList with k | k | k
    · rw [k] at h1; cases h1
    · rw [k, h] at h2; cases h2
    · have := lt_trans _ _ _ h k
      rw [this] at h2; cases h2
def insT (x : Str) : List Str → List Str
  | [] => [x]
  | y :: r => if ltCps y.cps.toList x.cps.toList = true then y :: insT x r else x :: y :: r
def srtT : List Str → List Str
  | [] => []
  | x :: r => insT x (srtT r)
theorem insT_perm (x : Str) : ∀ l : List Str, (insT x l).Perm (x :: l)
  | [] => .refl _
  | y :: r => by
    unfold insT
    split
    · exact ((insT_perm x r).cons y).trans (.swap x y r)
    · exact .refl _
theorem srtT_perm : ∀ l : List Str, (srtT l).Perm l
  | [] => .refl _
  | x :: r => (insT_perm x (srtT r)).trans ((srtT_perm r).cons x)
theorem insT_srt {x : Str} : ∀ {l : List Str}, l.Pairwise leS → (insT x l).Pairwise leS
  | [], _ => by simp [insT]
  | y :: r, h => by
    have h' := List.pairwise_cons.mp h
    unfold insT
    split
    · rename_i k
      refine List.pairwise_cons.mpr ⟨fun z hz => ?_, insT_srt h'.2⟩
      rcases List.mem_cons.mp ((insT_perm x r).mem_iff.mp hz) with rfl | hz
      · exact lt_asym k
      · exact h'.1 z hz
    · rename_i k
      have k : leS x y := by
        unfold leS
        cases q : ltCps y.cps.toList x.cps.toList with
        | false => rfl
        | true => exact absurd q k
      refine List.pairwise_cons.mpr ⟨fun z hz => ?_, h⟩
      rcases List.mem_cons.mp hz with rfl | hz
      · exact k
      · exact leS_trans k (h'.1 z hz)
theorem srtT_srt : ∀ l : List Str, (srtT l).Pairwise leS
  | [] => .nil
  | x :: r => insT_srt (srtT_srt r)
theorem srtT_one {a b : List Str} (p : a.Perm b) (ha : a.Pairwise leS) (hb : b.Pairwise leS) : a = b := by
  induction a generalizing b with
  | nil => exact p.nil_eq
  | cons x a ih =>
    cases b with
    | nil => exact absurd p.symm.nil_eq (by simp)
    | cons y b =>
      have h1 := List.pairwise_cons.mp ha
      have h2 := List.pairwise_cons.mp hb
      have e : x = y := by
        have m1 : x ∈ y :: b := p.mem_iff.mp (by simp)
        have m2 : y ∈ x :: a := p.mem_iff.mpr (by simp)
        rcases List.mem_cons.mp m1 with z | z
        · exact z
        · rcases List.mem_cons.mp m2 with w | w
          · exact w.symm
          · exact leS_anti (h1.1 y w) (h2.1 x z)
      subst e
      rw [ih (List.perm_cons x |>.mp p) h1.2 h2.2]
theorem rising_pw : ∀ (l : List Str) (p : Str), risingS p l = true → (p :: l).Pairwise leS
  | [], p, _ => by simp
  | x :: r, p, h => by
    simp only [risingS, Bool.and_eq_true, Bool.not_eq_true'] at h
    have ih := rising_pw r x h.2
    refine List.pairwise_cons.mpr ⟨fun z hz => ?_, ih⟩
    rcases List.mem_cons.mp hz with rfl | hz
    · exact h.1
    · exact leS_trans h.1 ((List.pairwise_cons.mp ih).1 z hz)
theorem sortedS_pw {l : List Str} (h : sortedS l = true) : l.Pairwise leS := by
  cases l with
  | nil => exact .nil
  | cons x r => exact rising_pw r x h
theorem sortedS_is {l ys : List Str} (p : ys.Perm l) (h : sortedS ys = true) : ys = srtT l := srtT_one (p.trans (srtT_perm l).symm) (sortedS_pw h) (srtT_srt l)
def strK : List Key → Option (List Str)
  | [] => some []
  | .inr s :: r => (strK r).map (s :: ·)
  | .inl _ :: _ => none
theorem strK_of : ∀ {ks : List Key} {ss : List Str}, strK ks = some ss → ks = ss.map Sum.inr
  | [], ss, h => by cases h; rfl
  | .inr s :: r, ss, h => by
    obtain ⟨t, h1, rfl⟩ := Option.map_eq_some_iff.mp h
    rw [strK_of h1]; rfl
  | .inl _ :: _, ss, h => by cases h
theorem rel_strs {g : Gx} {F : Hp} {ρ : List Addr} : ∀ (ns : List Str), RelL g F ρ (ns.map IV.str) (ns.map V.str)
  | [] => .nil
  | i :: r => .cons (by simp only [Rel]) (rel_strs r)
/-- sorted(d) of texts -/
def fSortedD (cs : List Cell) : List IV → Option IV
  | [x] => (dcI x cs).bind fun z => (strK z.1).bind fun ss => if ss.length < 64 then some (.lst ((srtT ss).map IV.str)) else none
  | _ => none
theorem cj_sortedD {X : Cx} (hc : X.calm = true) : CallR X (.builtin "sorted") (rCJ (gx X) fSortedD) := by
  intro pins s σ H vs us Q I r h
  obtain ⟨F, ρ, cs, xs, z, hs, hx, hf, q⟩ := h
  unfold fSortedD at hf
  split at hf
  · rename_i x
    obtain ⟨⟨ks, ys⟩, h1, h2⟩ := Option.bind_eq_some_iff.mp hf
    obtain ⟨ss, h3, h4⟩ := Option.bind_eq_some_iff.mp h2
    split at h4
    · rename_i h64
      cases h4
      obtain ⟨v, rfl, h5⟩ := relL1 hx
      obtain ⟨a, ws, rfl, h6, h7, h8⟩ := dc_rel hs h5 h1
      have ek := strK_of h3
      refine call_sortedD hc pins s σ H _ us Q I r ⟨a, _, ss, rfl, h6, by rw [List.map_fst_zip (by omega)]; exact ek, h64, fun ys p hp hsrt hfree => ?_⟩
      rw [sortedS_is hp hsrt]
      obtain ⟨s1, s2⟩ := hs.new (o := .lst ((srtT ss).map V.str)) hfree
      refine q _ ρ _ _ s2 s1 ?_
      simp only [Rel]
      exact ⟨p, _, rfl, upd_same, rel_strs _⟩
    · cases h4
  · cases hf

/-! ### dict comprehensions -/
def dcL (gm : GM) (mt : M Bool) (mk me : M IV) (n : Nat) (σ : List SV) (k : Nat) : List IV → List Cell → Res Unit
  | [], cs => .ok () cs
  | x :: xs, cs => match gm x σ with
    | none => .stuck
    | some σ1 => match mt n σ1 cs with
      | .ok false cs1 => dcL gm mt mk me n σ k xs cs1
      | .ok true cs1 => (match mk n σ1 cs1 with
        | .ok y cs2 => (match me n σ1 cs2 with
          | .ok z cs3 => (match dputI (.cell k) y z cs3 with
            | some cs4 => dcL gm mt mk me n σ k xs cs4
            | none => .stuck)
          | _ => .stuck)
        | _ => .stuck)
      | _ => .stuck
/-- {k: v for x in xs if t}, as a cell -/
def eDc (mi : M (List IV)) (gm : GM) (mt : M Bool) (mk me : M IV) (vs : List Nat) : M IV := mi.bind fun xs => fun n σ cs => (dcL gm mt mk me n (wipeI σ vs) cs.length xs (cs ++ [.dct [] []])).then fun _ cs' => .ok (.cell cs.length) cs'
section
variable {X : Cx} {n : Nat} {W : WX} {tg iter kx vx : Expr} {ifs : List Expr} {mi : M (List IV)} {gm : GM} {mt : M Bool} {mk me : M IV} {pos : Pos} {scope : Scope} {own : List (Str × Nat)} {ix : List Nat}
theorem dc_run {g : Gx} {σ : St} {H : Hp} {Q : VK} (hix : ∀ j ∈ ix, j ∈ own.map (·.2)) (h : tG g n W (Rel g) (eDc mi gm mt mk me (own.map (·.2))) σ H Q) : tDc (tG g n W (RI g) mi) (tGm g ix gm) (tG g n W0 RB mt) (tG g n W0 (Rel g) mk) (tG g n W0 (Rel g) me) (own.map (·.2)) σ H Q := by
  obtain ⟨F, ρ, cs, σi, hs, hl, hp⟩ := h
  refine go hs hl hp fun J H1 F1 ρ1 cs1 xs st1 hs1 hl1 r1 hp1 D hD => ?_
  generalize hvs : own.map (·.2) = vs at hp1 hix ⊢
  obtain ⟨r0, hr0⟩ : ∃ r0, dcL gm mt mk me n (wipeI σi vs) cs1.length xs (cs1 ++ [.dct [] []]) = r0 := ⟨_, rfl⟩
  replace hp1 : Pst g W σ (Rel g) F1 ρ1 H1 (r0.then fun _ cs' => .ok (.cell cs1.length) cs') Q := by rw [← hr0]; exact hp1
  obtain ⟨hs2, st2⟩ := hs1.newC (c := .dct [] []) (o := .dK []) hD (fun _ _ => ⟨[], rfl, rfl, .nil⟩) NoX.dK
  have hl2 := hl1.stp st2
  have hk2 : (ρ1 ++ [D])[cs1.length]? = some D := by
    have := cell_last (p := D) (c := .dead) hs1
    simp only [Rel] at this
    obtain ⟨a, e, h⟩ := this
    cases e
    exact h
  refine ⟨fun i m H => m = xs.length - i ∧ i ≤ xs.length ∧ ∃ F ρ cs, Stp F1 ρ1 H1 F ρ H ∧ Sim g F ρ cs H ∧ Slts g F ρ H σi σ ∧ ρ[cs1.length]? = some D ∧
      dcL gm mt mk me n (wipeI σi vs) cs1.length (xs.drop i) cs = r0, ⟨xs.length, by simp, Nat.zero_le _, F1, _, _, st2, hs2, hl2, hk2, hr0⟩, ?_⟩
  rintro i m H3 ⟨rfl, hi3, F3, ρ3, cs3, st3, hs3, hl3, hk3, e3⟩
  obtain ⟨k1, k2⟩ := r1 F3 ρ3 cs3 H3 st3.fz st3.rp hs3
  have bad : ∀ {r : Res Unit}, r = r0 → r = .stuck → False := fun {r} e1 e2 => by
    rw [← e1, e2] at hp1
    exact hp1
  by_cases hlt : i < xs.length
  · right
    have ei : xs[i]? = some xs[i] := List.getElem?_eq_getElem hlt
    obtain ⟨g1, g2⟩ := k1 i _ ei
    rw [List.drop_eq_getElem_cons hlt] at e3
    refine ⟨g1, fun H' => ∃ F ρ cs, Stp F1 ρ1 H1 F ρ H' ∧ Sim g F ρ cs H' ∧ Slts g F ρ H' σi σ ∧ ρ[cs1.length]? = some D ∧
      dcL gm mt mk me n (wipeI σi vs) cs1.length (xs.drop (i + 1)) cs = r0, fun H' q => ⟨xs.length - (i + 1), by omega, rfl, hlt, q⟩, fun v H4 y => ?_⟩
    obtain ⟨F4, st4, hs4, r4⟩ := g2 v H4 y
    have hl4 := hl3.stp st4
    obtain ⟨hw4, ow4⟩ := hl4.wipe vs
    unfold dcL at e3
    cases eg : gm xs[i] (wipeI σi vs) with
    | none => rw [eg] at e3; exact (bad e3 rfl).elim
    | some σ5 =>
      rw [eg] at e3
      simp only at e3
      refine ⟨F4, ρ3, cs3, wipeI σi vs, _, σ5, hs4, hw4, r4, eg, fun σ' l5 o5 s5 => ⟨wipe_same s5 hix, ?_⟩⟩
      refine ⟨F4, ρ3, cs3, σ5, hs4, l5, ?_⟩
      cases et : mt n σ5 cs3 with
      | stuck => rw [et] at e3; exact (bad e3 rfl).elim
      | ex _ _ => rw [et] at e3; exact (bad e3 rfl).elim
      | ok b cs5 =>
        rw [et] at e3
        intro F6 ρ6 H6 b' st6 hs6 rb
        have rb' : b = b' := rb
        subst rb'
        have tt6 : Stp F1 ρ1 H1 F6 ρ6 H6 := (st3.tr st4).tr st6
        have kup : ∀ {ρ' : List Addr}, (∃ t, ρ' = ρ3 ++ t) → ρ'[cs1.length]? = some D := fun {ρ'} ⟨t, e⟩ => by
          rw [e, List.getElem?_append_left (List.getElem?_eq_some_iff.mp hk3).1]; exact hk3
        cases b with
        | false =>
          rw [if_neg Bool.false_ne_true]
          exact ⟨F6, ρ6, cs5, tt6, hs6, hl4.stp st6, kup st6.rp, e3⟩
        | true =>
          rw [if_pos rfl]
          simp only at e3
          refine ⟨F6, ρ6, cs5, σ5, hs6, l5.stp st6, ?_⟩
          cases ek : mk n σ5 cs5 with
          | stuck => rw [ek] at e3; exact (bad e3 rfl).elim
          | ex _ _ => rw [ek] at e3; exact (bad e3 rfl).elim
          | ok yk cs7 =>
            rw [ek] at e3
            intro F7 ρ7 H7 wk st7 hs7 r7
            simp only at e3
            refine ⟨F7, ρ7, cs7, σ5, hs7, (l5.stp st6).stp st7, ?_⟩
            cases ee : me n σ5 cs7 with
            | stuck => rw [ee] at e3; exact (bad e3 rfl).elim
            | ex _ _ => rw [ee] at e3; exact (bad e3 rfl).elim
            | ok z cs8 =>
              rw [ee] at e3
              intro F8 ρ8 H8 w st8 hs8 r8
              simp only at e3
              have tt8 := (tt6.tr st7).tr st8
              have hk8 : ρ8[cs1.length]? = some D := kup ((st6.tr st7).tr st8).rp
              cases ep : dputI (.cell cs1.length) yk z cs8 with
              | none => rw [ep] at e3; exact (bad e3 rfl).elim
              | some cs9 =>
                rw [ep] at e3
                unfold dputI at ep
                simp only at ep
                split at ep
                · rename_i ks ys q1
                  split at ep
                  · rename_i hz
                    obtain ⟨key, h1, rfl⟩ := Option.map_eq_some_iff.mp ep
                    obtain ⟨us, h3, h4, h5⟩ := hs8.ok _ _ D q1 hk8
                    have := keyI_rel (r7.stp st8) h1
                    subst this
                    have rk := (relK_zip h4 h5).put (k := key) r8
                    have hlen : (ks.zip us).length < lim := by rw [List.length_zip, ← h4, Nat.min_self]; exact hz
                    obtain ⟨s1, s2⟩ := hs8.cell (c := .dct ((putG (ks.zip ys) key z).map (·.1)) ((putG (ks.zip ys) key z).map (·.2))) (o := .dK (putK (ks.zip us) key w)) q1 (by intro z; cases z) hk8
                      ⟨(putK (ks.zip us) key w).map (·.2), by rw [rk.1, zip_maps], by rw [List.length_map, List.length_map]; have := congrArg List.length rk.1; simpa using this, rk.2⟩ NoX.dK
                    exact ⟨_, key, rfl, h3, Nat.lt_of_lt_of_le hlen (by decide), F8, ρ8, _, tt8.tr s2, s1, (((hl4.stp st6).stp st7).stp st8).stp s2, hk8, e3⟩
                  · cases ep
                · cases ep
  · left
    have hi2 : i = xs.length := by omega
    subst hi2
    rw [List.drop_length] at e3
    refine ⟨k2, ?_⟩
    rw [show r0 = .ok () cs3 from e3.symm] at hp1
    exact hp1 F3 ρ3 H3 _ st3 hs3 (by simp only [Rel]; exact ⟨D, rfl, hk3⟩)
theorem je_dc (hc : X.calm = true) (hN : X.N.Nodup) (hi : JI X n W tg iter mi) (ok : BlkOk X.N X.env.scope scope own) (hix : ∀ j ∈ ix, j ∈ own.map (·.2))
    (hg : ∀ (s : Shared) (H : Hp) (C : Addr) (cl : List (Str × Addr)) (fp : List Addr), JG (X.blk s H scope (compEnvC scope cl C X.env) fp) tg ix gm) (ht : ∀ (s : Shared) (H : Hp) (C : Addr) (cl : List (Str × Addr)) (fp : List Addr), JTs (X.blk s H scope (compEnvC scope cl C X.env) fp) n W0 ifs mt)
    (hk : ∀ (s : Shared) (H : Hp) (C : Addr) (cl : List (Str × Addr)) (fp : List Addr), JE (X.blk s H scope (compEnvC scope cl C X.env) fp) n W0 kx mk)
    (he : ∀ (s : Shared) (H : Hp) (C : Addr) (cl : List (Str × Addr)) (fp : List Addr), JE (X.blk s H scope (compEnvC scope cl C X.env) fp) n W0 vx me) (hs : ∀ x, foldedSetIterable iter X.env x = pure x := by intro _; rfl) :
    JE X n W (.DictComp kx vx [⟨tg, iter, ifs, 0⟩] scope pos) (eDc mi gm mt mk me (own.map (·.2))) := by
  refine pe_imp (pe_dc (own := own) (g := tGm (gx X) ix gm) (tt := tG (gx X) n W0 RB mt) (tk := tG (gx X) n W0 (Rel (gx X)) mk) (tv := tG (gx X) n W0 (Rel (gx X)) me) hc hN hi ok (fun s H C cl fp => hg s H C cl fp) (fun s H C cl fp => ht s H C cl fp) (fun s H C cl fp => hk s H C cl fp) (fun s H C cl fp => he s H C cl fp) hs) fun σ H Q h => dc_run hix h
end
end SL

set_option Elab.async false
set_option linter.all false
set_option autoImplicit false
set_option maxRecDepth 100000
set_option maxHeartbeats 4000000
/-! SLEnum: enumerate of a tuple. -/
namespace SL
open PySem PySem.Spec L2
open PyProof.Rows hiding St
open AutoSeq1 (wpAny_loadPart')
theorem meets_enumT (t : Addr) (items : Array Value) :
    Meets (Builtin.«enumerate.__new__» ⟨[.type "enumerate", .ref t], []⟩) (fun _ R s => s.heap.IsTuple t items ∧
      R (.ok (.ret (.ref (s.heap.push { cls := .type "tuple_iterator", data := .fields #[.ref t, .int 0 0] }).objs.size)))
        { s with heap := (s.heap.push { cls := .type "tuple_iterator", data := .fields #[.ref t, .int 0 0] }).push { cls := .type "enumerate", data := .fields #[.none, .bool false, .ref s.heap.objs.size, rawInt 0, .none, .none] } }) :=
  .of_wp fun prog w A R s h => by
    obtain ⟨hp, g, d, tk, os⟩ := s
    obtain ⟨hT, h⟩ := h
    have hsub := sub_enumerate
    wp_walk
    refine wpAny_stack_any fun st => wpAny_pure ?_
    split
    · rename_i c _ _ _ _ _
      cases (c == Value.type "enumerate")
      · wp_walk using wpAny_pyIter_tuple hT
        exact ⟨_, rfl, h⟩
      · wp_walk using wpAny_pyIter_tuple hT
        exact ⟨_, rfl, h⟩
    · wp_walk using wpAny_pyIter_tuple hT
      exact ⟨_, rfl, h⟩
theorem call_enumT {prog : Program} {w : World} {A : Around} {E : Value → Shared → Prop} {s : Shared} {t : Addr} {items : Array Value} {Q : Value → Shared → Prop} (hT : s.heap.IsTuple t items)
    (h : ∀ h', IsEnum h' (s.heap.objs.size + 1) s.heap.objs.size 0 .none → h'.IsTupleIter s.heap.objs.size t 0 → (∀ b o, s.heap.get? b = some o → h'.get? b = some o) → Q (.ref (s.heap.objs.size + 1)) { s with heap := h' }) :
    wpAny (model prog w) A (call (.type "enumerate") [.ref t]) Q E s := by
  refine callType_new F.called_enumerate (by decide) (F.typeCall_enumerate_1 _) (F.newCall_enumerate_1 _) (fun obj => F.args_object_init_2 obj _) F.entry_enumerate_new (meets_enumT t items) ⟨hT, ?_⟩
  have hz : (s.heap.push { cls := .type "tuple_iterator", data := .fields #[.ref t, .int 0 0] }).objs.size = s.heap.objs.size + 1 := Heap.size_push ..
  have he : IsEnum ((s.heap.push { cls := .type "tuple_iterator", data := .fields #[.ref t, .int 0 0] }).push { cls := .type "enumerate", data := .fields #[.none, .bool false, .ref s.heap.objs.size, rawInt 0, .none, .none] }) (s.heap.objs.size + 1) s.heap.objs.size 0 .none := by
    have := Heap.get?_push_size (s.heap.push { cls := .type "tuple_iterator", data := .fields #[.ref t, .int 0 0] }) (o := { cls := .type "enumerate", data := .fields #[.none, .bool false, .ref s.heap.objs.size, rawInt 0, .none, .none] }) rfl
    rw [hz] at this; exact this
  show _ ∧ _
  rw [hz]
  exact ⟨⟨_, he, rfl⟩, h _ he ⟨_, Heap.get?_push_of_some _ (Heap.get?_push_size _ rfl), rfl, rfl⟩ fun b o x => Heap.get?_push_of_some _ (Heap.get?_push_of_some _ x)⟩
/-- the tuple at a, each item in a new pair -/
def Itet (K : PySem.W.Frag) (a : Addr) : It :=
  ⟨fun i H => ∃ (xs : List V) (x : V), SqT K H a xs ∧ xs[i]? = some x, fun i H v H' => ∃ T x, v = .ref T ∧ H T = none ∧ H' = upd H T (.tup [.int (i : Nat), x]) ∧ ∀ xs, SqT K H a xs → xs[i]? = some x, fun i H => ∃ xs : List V, SqT K H a xs ∧ xs.length ≤ i⟩
theorem turn_enumT {P : Program} {w : World} {K : PySem.W.Frag} {elts : List Expr} {kk : Nat} {tpos : Pos} (a e it : Addr) :
    Turn P w K (.Tuple elts kk tpos) (Itet K a) [e, it] e (fun i h => (∃ old, IsEnum h e it ((i : Nat) : Int) old) ∧ h.IsTupleIter it a i ∧ e ≠ it) where
  mem := by simp
  obj := fun i h st b hb => by
    obtain ⟨⟨old, he⟩, ⟨o, ho, hc, hd⟩, _⟩ := st
    rcases (show b = e ∨ b = it by simpa using hb) with z | z
    · rw [z]; exact ⟨_, he, fun v q => nomatch q⟩
    · rw [z]; exact ⟨o, ho, fun v q => by rw [hd] at q; cases q⟩
  keep := fun i h h' st k => let ⟨⟨old, he⟩, hi, hne⟩ := st; ⟨⟨old, k e (by simp) _ he⟩, hi.at fun o q => k it (by simp) o q, hne⟩
  item := by
    intro X hP hw hK hc i pins s σ H E I hf st hg
    subst hP hw hK
    obtain ⟨⟨old, he⟩, hit, hne⟩ := st
    obtain ⟨xs, x, hq, hx⟩ := hg
    obtain ⟨its, rv, p, hz⟩ := I.tuple hq
    have p : s.heap.IsTuple a its.toArray := p
    obtain ⟨u, hu, ru⟩ := rv.get hx
    have hel : e < s.heap.objs.size := Heap.lt_size he
    have hil : it < s.heap.objs.size := by obtain ⟨_, q, _⟩ := hit; exact Heap.lt_size q
    have na : a ≠ it := fun z => by
      obtain ⟨o, h1, h2, _⟩ := hit
      obtain ⟨o2, h3, h4, _⟩ := p
      rw [z, h1] at h3; cases h3; rw [h2] at h4; simp at h4
    have nae : a ≠ e := fun z => by
      obtain ⟨o2, h3, h4, _⟩ := p
      rw [z] at h3
      have q := he.symm.trans h3
      cases q; simp at h4
    have hh : X.A.handled = none := I.ok.hd hc
    have D := Draws.tuple (prog := X.prog) (w := X.w) (A := X.A.in1) hh it a na its.toArray
    have hlt : i < its.toArray.size := by simpa using (List.getElem?_eq_some_iff.mp hu).1
    refine wpAny_pyNext_enum_itemD (i := i) D he ⟨hit, p⟩ hlt hne (by simp [hne, Ne.symm nae]) fun y h' tk hy ho hit' hT hsz hk => ?_
    have ey : y = u := by
      have : its[i]? = some y := by simpa using hy
      rw [hu] at this
      exact (Option.some.inj this).symm
    subst ey
    refine ⟨_, rfl, wpAny_letOwnedTupleGo_enum (s := { s with heap := h', toks := tk + 1 }) ho fun h'' he' sb => ?_⟩
    have hT2 : h''.get? s.heap.objs.size = some { cls := .type "tuple", data := .seq #[.int i tk, y] } := (sb.2 _ (Nat.ne_of_gt hel)).trans hT
    have new : ObjOk X.prog X.w (upd H s.heap.objs.size (.tup [.int (i : Nat), x])) h'' s.heap.objs.size (.tup [.int (i : Nat), x]) :=
      ⟨by show 2 ≤ sizeLine; decide, [.int i tk, y], .cons ⟨_, rfl⟩ (.cons ru .nil), ⟨_, hT2, rfl, _, rfl⟩⟩
    have I1 : Inv X pins σ (upd H s.heap.objs.size (.tup [.int (i : Nat), x])) { s with heap := h'', toks := tk + 1 } :=
      I.turnedNew (ch := [e, it]) (fun b ob hb q => (sb.2 b (fun z => hb (by simp [z]))).trans (hk b ob (fun z => hb (by simp [z])) (fun z => hb (by simp [z])) q)) hf (Nat.le_refl _) new
    refine ⟨.ref s.heap.objs.size, _, I1, rfl, ⟨_, x, rfl, I.hok.fresh (Nat.le_refl _), rfl, fun ys hy => by rw [I.tuple_inj hy hq]; exact hx⟩, ⟨⟨y, ?_⟩, hit'.1.at fun o q => (sb.2 it (Ne.symm hne)).trans q, hne⟩, fun b hb => ?_⟩
    · have e1 : ((i + 1 : Nat) : Int) = (i : Int) + 1 := by omega
      rw [e1]; exact he'
    · have hb' : b < s.heap.objs.size := by
        rcases (show b = e ∨ b = it by simpa using hb) with z | z
        · rw [z]; exact hel
        · rw [z]; exact hil
      rw [upd_ne (Nat.ne_of_lt hb')]
      exact (hf b hb).1
  done := by
    intro X hP hw hK hc i pins s σ H E I hf st hg
    subst hP hw hK
    obtain ⟨⟨old, he⟩, hit, hne⟩ := st
    obtain ⟨xs, hq, hx⟩ := hg
    obtain ⟨its, rv, p, hz⟩ := I.tuple hq
    have p : s.heap.IsTuple a its.toArray := p
    obtain ⟨f0, f1, f2, f3, f4, f5⟩ := hf it (by simp)
    have hl := rv.length
    have hh : X.A.handled = none := I.ok.hd hc
    have hTy : s.TypeIs (.ref e) "enumerate" := ⟨_, he, rfl⟩
    unfold pyNext
    refine wpAny_bind (wpAny_attempt (wpAny_callSpecial?_slot (name := Str.ofString "__next__") hTy F.slot_enumerate_next (wpAny_call_entry F.slot_enumerate_next hTy F.entry_enumerate_next ?_ (F.args_enumerate_next_1 _))))
    show wpAny _ _ (field (.ref e) 2 >>= _) _ _ _
    refine wpAny_bind (wpAny_field he rfl (x := .ref it) rfl ?_)
    refine wpAny_bind (wpAny_nextOf_tuple_end hh hit p (by simp; omega) fun h' x eb hx' => ?_)
    obtain ⟨o, ho, hc'⟩ := hx'
    refine wpAny_bind (wpAny_isInstance (T := "StopIteration") (b := true) ⟨o, ho, hc'⟩ isSubtype_stop ?_)
    exact wpAny_pure ⟨rfl, I.turned (t' := s.toks) (fun b o hb q => eb b o hb q) f0 f1 f3 f4 f5⟩
  self := fun A i s Q E st h => let ⟨⟨_, he⟩, _⟩ := st; wpAny_pyIter_enum he h
def iEnumT (K : PySem.W.Frag) (ta : TA) : TI := fun σ H R => ta σ H fun vs H1 => ∃ a xs, vs = [.ref a] ∧ SqT K H1 a xs ∧ R (Itet K a) H1
theorem pi_enumT {X : Cx} {e : Expr} {ta : TA} {p pos tpos : Pos} {elts : List Expr} {kk : Nat} (hg : Gl X "enumerate") (hm : X.mg "enumerate" = none) (ha : PA X [e] ta) (hs : starEach [e] X.env = [(false, eval e X.env)] := by rfl) :
    PI X (.Tuple elts kk tpos) (.Call (.Name "enumerate" p) [e] [] pos) (iEnumT X.K ta) := by
  refine ⟨fun pins s σ H R I h => ?_⟩
  refine Call_ (ld_blt I hg hm boot_enumerate (PyProof.Rows.callWith_type1 (thn (ha.run pos pins s σ H _ I h) fun us s1 ⟨vs, H1, I1, r1, q1⟩ => ?_) hs rfl))
  obtain ⟨a, xs, ex, hq, q⟩ := q1
  subst ex
  cases r1 with
  | cons r rr =>
    cases rr
    cases r
    obtain ⟨its, rv, p', hz⟩ := I1.tuple hq
    refine call_enumT (show s1.heap.IsTuple a its.toArray from p') fun h' he hit hk => wpAny_pyIter_enum he ?_
    have I2 : Inv X pins σ H1 { s1 with heap := h' } := I1.kept (t' := s1.toks) hk
    refine ⟨s1.heap.objs.size + 1, [s1.heap.objs.size + 1, s1.heap.objs.size], _, _, H1, rfl, I2, turn_enumT a (s1.heap.objs.size + 1) s1.heap.objs.size, ⟨⟨.none, he⟩, hit, Nat.succ_ne_self _⟩, fun b hb => ?_, q⟩
    have hle : s1.heap.objs.size ≤ b := by
      rcases (show b = s1.heap.objs.size + 1 ∨ b = s1.heap.objs.size by simpa using hb) with z | z
      · rw [z]; exact Nat.le_add_right _ _
      · rw [z]; exact Nat.le_refl _
    exact I1.fpOk hle (I1.hok.fresh hle)
section
variable {X : Cx} {n : Nat} {W : WX} {e : Expr} {ma : M (List IV)} {p pos tpos : Pos} {elts : List Expr} {kk : Nat} {g : Gx} {F : Hp} {ρ : List Addr}
theorem ri_enT {xs : List IV} {vs : List V} {ad : Addr} (h : SqT g.K F ad vs) (r : RelL g F ρ xs vs) : RI g F ρ (enI xs 0) (Itet g.K ad) := by
  intro F' ρ' cs' H' hf hr hs
  have hq : SqT g.K H' ad vs := sqT_mono (fun a o e => hs.fz a o (hf a o e)) h
  have r' := r.mono hf hr
  refine ⟨fun i y e => ?_, ⟨vs, hq, by rw [enI_len, r.len]; exact Nat.le_refl _⟩⟩
  obtain ⟨x, e0, rfl⟩ := enI_get _ _ _ _ e
  obtain ⟨v, e1, r1⟩ := r'.get e0
  refine ⟨⟨vs, v, hq, e1⟩, fun v' H'' yy => ?_⟩
  obtain ⟨T, w, rfl, hT, rfl, y⟩ := yy
  have := y vs hq
  rw [e1] at this
  cases this
  obtain ⟨s1, s2⟩ := hs.new (o := .tup [.int (i : Nat), v]) hT
  refine ⟨_, s2, s1, ?_⟩
  simp only [Rel]
  refine ⟨T, _, rfl, .inl (.inl upd_same), .cons (by simp only [Rel, Nat.zero_add]) (.cons (r1.stp s2) .nil)⟩
def mEnT (a : M (List IV)) : M (List IV) := a.bind fun xs => M.opt (match xs with
  | [.tup ys] => some (enI ys 0)
  | _ => none)
theorem ji_enT (ha : JA X n W [e] ma) (hm : X.mg "enumerate" = none) (hg : Gl X "enumerate" := by rfl) (hs : starEach [e] X.env = [(false, eval e X.env)] := by rfl) : JI X n W (.Tuple elts kk tpos) (.Call (.Name "enumerate" p) [e] [] pos) (mEnT ma) := by
  refine pi_imp (pi_enumT hg hm ha hs) fun σ H R q => ?_
  obtain ⟨F, ρ, cs, σi, hs, hl, hp⟩ := q
  refine go hs hl hp fun vs H1 F1 ρ1 cs1 xs st1 hs1 hl1 r1 hp1 => ?_
  obtain ⟨z, hz, hq⟩ := pst_opt hp1
  split at hz
  · cases hz
    obtain ⟨v, rfl, h1⟩ := relL1 r1
    simp only [Rel] at h1
    obtain ⟨a, ws, rfl, h2, h3⟩ := h1
    exact ⟨a, ws, rfl, sqT_mono hs1.fz h2, hq F1 ρ1 H1 _ StpU.refl hs1 (ri_enT h2 h3)⟩
  · cases hz
end
end SL

set_option Elab.async false
set_option linter.all false
set_option autoImplicit false
set_option maxRecDepth 100000
set_option maxHeartbeats 4000000
/-! SLRevT: t[::-1] of a tuple. -/
namespace SL
open PySem PySem.Spec L2
open PyProof.Rows hiding St
theorem rng_rev (n : Nat) : (List.range n).map (fun k => n - 1 - k) = (List.range n).reverse := by
  apply List.ext_getElem
  · simp
  · intro i h1 h2
    simp
theorem all_get {α : Type} (l : List α) : (List.range l.length).filterMap (fun k => l[k]?) = l := by
  have h : ∀ (m : List α) (i : Nat), m = l.drop i → (List.range' i m.length).filterMap (fun k => l[k]?) = m := by
    intro m
    induction m with
    | nil => intro i _; rfl
    | cons x m ih =>
      intro i e
      have hi : l[i]? = some x := by
        have := congrArg (·[0]?) e
        simp at this
        exact this.symm
      have e2 : m = l.drop (i + 1) := by
        have := congrArg List.tail e
        simpa using this
      rw [List.length_cons, List.range'_succ, List.filterMap_cons, hi]
      simp only
      rw [ih (i + 1) e2]
  have := h l 0 (by simp)
  rw [List.range_eq_range']
  exact this
theorem pick_rev (xs : Array Value) : ((List.range xs.size).filterMap fun (k : Nat) => xs[(((xs.size : Int) - 1) + (k : Int) * -1).toNat]?).toArray = xs.toList.reverse.toArray := by
  congr 1
  have e : (fun (k : Nat) => xs[(((xs.size : Int) - 1) + (k : Int) * -1).toNat]?) = (fun k => xs.toList[k]?) ∘ fun (k : Nat) => ((((xs.size : Int) - 1) + (k : Int) * -1).toNat) := by
    funext k
    simp
  rw [e, ← List.filterMap_map]
  have e2 : (List.range xs.size).map (fun (k : Nat) => (((xs.size : Int) - 1) + (k : Int) * -1).toNat) = (List.range xs.size).reverse := by
    rw [← rng_rev]
    refine List.map_congr_left fun k hk => ?_
    omega
  rw [e2, List.filterMap_reverse]
  congr 1
  have := all_get xs.toList
  simpa using this
theorem adj_rev (n : Nat) : Builtin.Slice.sliceAdjust none none (-1) (n : Int) = ((n : Int) - 1, -1) := rfl
theorem pl_rev (n : Nat) : Builtin.Slice.slicePlaces ((n : Int) - 1) (-1) (-1) = n := by
  unfold Builtin.Slice.slicePlaces
  rw [if_neg (by decide)]
  split
  · have : ((n : Int) - 1 - -1 - 1) / (- -1) = (n : Int) - 1 := by
      rw [show (- -1 : Int) = 1 by decide, Int.ediv_one]; omega
    rw [this]; omega
  · omega
section
variable {prog : Program} {w : World} {A : Around} {E : Value → Shared → Prop} {s : Shared}
theorem app_rev {sl : Addr} {vl vu vs : Value} {n : Nat} {Q : Int × Int × Nat → Shared → Prop} (hs : s.heap.IsSliceOf sl vl vu vs) (pl : IsPart vl none) (pu : IsPart vu none) (ps : IsPart vs (some (-1)))
    (h : Q ((n : Int) - 1, -1, n) s) : wpAny (model prog w) A (Builtin.Slice.sliceApplied (.ref sl) (pure (n : Int))) Q E s := by
  obtain ⟨os, hos, hcs, hds⟩ := id hs
  unfold Builtin.Slice.sliceApplied Builtin.Slice.sliceFields
  refine wpAny_bind (wpAny_bind (wpAny_field hos hds (x := vl) rfl (wpAny_bind (wpAny_field hos hds (x := vu) rfl (wpAny_bind (wpAny_field hos hds (x := vs) rfl (wpAny_pure ?_)))))))
  refine wpAny_bind (HT.slicePart_ ps ?_)
  show wpAny _ _ (if ((-1 : Int) == 0) = true then _ else _) _ _ s
  rw [if_neg (by decide)]
  refine wpAny_bind (HT.slicePart_ pl (wpAny_bind (HT.slicePart_ pu (wpAny_bind (wpAny_pure ?_)))))
  show wpAny _ _ (match Builtin.Slice.sliceAdjust none none (-1) (n : Int) with | (lo, hi) => pure (lo, (-1 : Int), Builtin.Slice.slicePlaces lo hi (-1))) _ _ s
  rw [adj_rev]
  show wpAny _ _ (pure ((n : Int) - 1, (-1 : Int), Builtin.Slice.slicePlaces ((n : Int) - 1) (-1) (-1))) _ _ s
  rw [pl_rev]
  exact wpAny_pure h
theorem get_rev {t sl : Addr} {items : Array Value} {vl vu vs : Value} {Q : Value → Shared → Prop} (ht : IsTup s.heap t items) (hs : s.heap.IsSliceOf sl vl vu vs) (pl : IsPart vl none) (pu : IsPart vu none) (ps : IsPart vs (some (-1)))
    (h : Q (.ref s.heap.objs.size) { s with heap := s.heap.push { cls := .type "tuple", data := .seq items.toList.reverse.toArray } }) (hsz : items.size ≤ sizeLine) : wpAny (model prog w) A (getItem (.ref t) (.ref sl)) Q E s := by
  have hok : sizeOk (.seq items.toList.reverse.toArray) := by
    show items.toList.reverse.toArray.size ≤ sizeLine
    simpa using hsz
  obtain ⟨os, hos, hcs, hds⟩ := id hs
  have hTs : s.TypeIs (.ref sl) "slice" := ⟨os, hos, hcs⟩
  unfold getItem
  try with_reducible refine wpAny_holding ?_
  first | refine wpAny_bind (wpAny_pure ?_) | skip
  refine wpAny_bind (wpAny_sequenceKey ht.typeIs (by decide) ?_)
  refine wpAny_bind (wpAny_callSpecial?_slot (name := Str.ofString "__getitem__") ht.typeIs PyProof.Rows.slot_tuple_getitem (wpAny_call_entry PyProof.Rows.slot_tuple_getitem ht.typeIs entry_tuple_getitem ?_ (args_tuple_getitem _ _)))
  show wpAny _ _ (Builtin.Tuple.tupleItemsOf (.ref t) >>= _) _ _ s
  refine wpAny_bind (tupleItemsOf_ ht (wpAny_bind (wpAny_typeOf hTs ?_)))
  rw [if_pos (by decide)]
  refine wpAny_bind (app_rev hs pl pu ps ?_)
  have hno : ¬ ((((items.size : Int) - 1) == 0 && (-1 : Int) == 1 && items.size == items.size) = true) := by simp
  show wpAny _ _ (if ((((items.size : Int) - 1) == 0 && (-1 : Int) == 1 && items.size == items.size)) = true then _ else _) _ _ s
  rw [if_neg hno, pick_rev]
  first
    | exact wpAny_bind (m := Builtin.Tuple.tupleExact _) (wpAny_newObj_type (wpAny_pure ⟨_, rfl, wpAny_pure h⟩) hok)
    | exact wpAny_bind (m := Builtin.Tuple.tupleExact _) (wpAny_newObj_type (wpAny_bind (wpAny_pure (wpAny_pure ⟨_, rfl, wpAny_pure h⟩))) hok)
end
def tRevU (K : PySem.W.Frag) (te : TE) : TE := fun σ H Q => te σ H fun x H1 => ∃ a xs, x = .ref a ∧ SqT K H1 a xs ∧ ∀ p, H1 p = none → Q (.ref p) (upd H1 p (.tup xs.reverse))
theorem pe_revU {X : Cx} {e : Expr} {te : TE} {k : Nat} {p1 p2 p3 pos : Pos} (he : PE X e te) : PE X (.Subscript e (.Slice none none (some (.UnaryOp .USub (.Constant (.int 1) k p1) p2)) p3) pos) (tRevU X.K te) := by
  refine ⟨fun pins s σ H Q I h => ?_⟩
  refine Subscript_ (thn (he.run pins s σ H _ I h) fun v s1 ⟨x, H1, I1, r1, a, xs, ex, hx, q⟩ => ?_)
  subst ex
  cases r1
  have hst : PO X (some (.UnaryOp .USub (.Constant (.int 1) k p1) p2)) (tPart (tUn (rU fun i => .int (-i)) (tC (.int 1)))) := po_some (pe_un un_neg pe_int)
  refine wpAny_Slice (thn (po_none.run pins s1 σ H1 (fun o H2 => o = none ∧ H2 = H1) I1 ⟨rfl, rfl⟩) fun vl s2 ⟨l, H2, I2, pl, el, e2⟩ => ?_)
  subst el e2
  refine thn (po_none.run pins s2 σ H2 (fun o H3 => o = none ∧ H3 = H2) I2 ⟨rfl, rfl⟩) fun vu s3 ⟨u, H3, I3, pu, eu, e3⟩ => ?_
  subst eu e3
  refine thn (hst.run pins s3 σ H3 (fun o H4 => o = some (-1) ∧ H4 = H3) I3 ⟨1, rfl, -1, rfl, rfl, rfl⟩) fun vs s4 ⟨o, H4, I4, ps, eo, e4⟩ => ?_
  subst eo e4
  have I5 : Inv X pins σ H4 { s4 with heap := s4.heap.push { cls := .type "slice", data := .fields #[vl, vu, vs] } } := I4.kept (t' := s4.toks) fun b ob q => Heap.get?_push_of_some _ q
  obtain ⟨its, r, ht, hz⟩ := I5.tuple hx
  have hlen := r.length
  show wpAny (model X.prog X.w) X.A (subscriptTail e (.Slice none none (some (.UnaryOp .USub (.Constant (.int 1) k p1) p2)) p3) (.ref a) (.ref s4.heap.objs.size)) (EP X pins σ Q) X.xe { s4 with heap := s4.heap.push { cls := .type "slice", data := .fields #[vl, vu, vs] } }
  refine tail_any (ops := [.ref a, .ref s4.heap.objs.size]) ht.typeIs (PyProof.Rows.slot_tuple_getitem.lookup) ?_ (by with_unfolding_all rfl)
  refine get_rev ht (Heap.IsSliceOf.new _ vl vu vs) pl pu ps ?_ (by rw [List.size_toArray]; omega)
  refine ⟨.ref _, _, I5.laid (t' := s4.toks) (o := .tup xs.reverse) (fun b ob q => Heap.get?_push_of_some _ q) (Nat.le_refl _) ?_, rfl, q _ (I5.hok.fresh (Nat.le_refl _))⟩
  exact ⟨by rw [List.length_reverse]; exact hz, _, r.reverse, ⟨_, Heap.get?_push_size _ rfl, rfl, 0, rfl⟩⟩
def eRevU (m : M IV) : M IV := m.bind fun x => M.opt (match x with
  | .tup xs => some (.tup xs.reverse)
  | _ => none)
theorem je_revU {X : Cx} {n : Nat} {W : WX} {a : Expr} {ma : M IV} {k : Nat} {p1 p2 p3 pos : Pos} (ha : JE X n W a ma) : JE X n W (.Subscript a (.Slice none none (some (.UnaryOp .USub (.Constant (.int 1) k p1) p2)) p3) pos) (eRevU ma) := by
  refine pe_imp (pe_revU ha) fun σ H Q q => ?_
  obtain ⟨F, ρ, cs, σi, hs, hl, hp⟩ := q
  refine go hs hl hp fun v H1 F1 ρ1 cs1 x st1 hs1 hl1 r1 hp1 => ?_
  obtain ⟨z, hz, hq⟩ := pst_opt hp1
  split at hz
  · cases hz
    simp only [Rel] at r1
    obtain ⟨a, vs, rfl, h1, h2⟩ := r1
    refine ⟨a, vs, rfl, sqT_mono hs1.fz h1, fun p hp => ?_⟩
    obtain ⟨hs', st⟩ := hs1.new (o := .tup vs.reverse) hp
    exact hq _ _ _ _ st hs' (by simp only [Rel]; exact ⟨p, _, rfl, .inl (.inl upd_same), h2.reverse.stp st⟩)
  · cases hz
end SL

set_option Elab.async false
set_option linter.all false
set_option autoImplicit false
set_option maxRecDepth 100000
set_option maxHeartbeats 4000000
/-! SLNice: plain values of small size: their texts, kinds, equality with themselves. -/
namespace SL
open PySem PySem.Spec L2
open PyProof.Rows hiding St
def nicS (s : Str) : Bool := decide (s.cps.size ≤ 100) && s.cps.all (· < 0x110000)
def nicK : Key → Bool
  | .inl i => decide (i.natAbs < 10 ^ 38)
  | .inr s => nicS s
def wtK : Key → Nat
  | .inl _ => 1
  | .inr s => s.cps.size + 1
def wtKs : List Key → Nat
  | [] => 0
  | k :: ks => wtK k + wtKs ks
mutual
/-- plain data: short texts, whole numbers of few digits -/
def nic : IV → Bool
  | .non => true
  | .bl _ => true
  | .int i => decide (i.natAbs < 10 ^ 38)
  | .str s => nicS s
  | .tup xs => nicL xs
  | .lst xs => nicL xs
  | .dct ks xs => ks.all nicK && nicL xs
  | _ => false
def nicL : List IV → Bool
  | [] => true
  | x :: xs => nic x && nicL xs
end
mutual
/-- how much there is of it -/
def wtI : IV → Nat
  | .str s => s.cps.size + 1
  | .tup xs => 1 + wtL xs
  | .lst xs => 1 + wtL xs
  | .dct ks xs => 1 + wtKs ks + wtL xs
  | _ => 1
def wtL : List IV → Nat
  | [] => 0
  | x :: xs => wtI x + wtL xs
end
mutual
def dpI : IV → Nat
  | .tup xs => dpL xs + 1
  | .lst xs => dpL xs + 1
  | .dct _ xs => dpL xs + 1
  | _ => 0
def dpL : List IV → Nat
  | [] => 0
  | x :: xs => max (dpI x) (dpL xs)
end
mutual
/-- without dicts -/
def noD : IV → Bool
  | .tup xs => noDL xs
  | .lst xs => noDL xs
  | .dct _ _ => false
  | _ => true
def noDL : List IV → Bool
  | [] => true
  | x :: xs => noD x && noDL xs
end
structure NP (w k : Nat) (flat : Bool) (d : PyData) : Prop where
  sh : d.showable = true
  lv : d.leavesShort 40 = true
  bk : d.bulk + 1 ≤ w
  dp : d.depth ≤ k
  ft : flat = true → d.canLay0 = true
structure NPL (w k : Nat) (flat : Bool) (d : List PyData) : Prop where
  sh : PyData.showableAll d = true
  lv : PyData.leavesShortAll 40 d = true
  bk : PyData.bulkAll d ≤ w
  dp : PyData.depthAll d ≤ k
  ft : flat = true → PyData.canLayAll0 d = true
theorem int_np {i : Int} (h : i.natAbs < 10 ^ 38) : (PyData.int i).showable = true ∧ (PyData.int i).leavesShort 40 = true := by
  refine ⟨?_, ?_⟩
  · have : i.natAbs < 2 ^ 1900 := Nat.lt_trans h (by decide)
    have := log_le this (by decide)
    simp only [PyData.showable, decide_eq_true_eq]; omega
  · have := int_text_length_le10 (a := i) (k := 38) (by decide) h
    simp only [PyData.leavesShort, decide_eq_true_eq]
    show (Str.ofString (toString i)).length ≤ _
    rw [strlen_of]
    omega
theorem str_np {s : Str} (h : nicS s = true) : (s.cps.toList.all fun c => decide (c < 16 ^ 8)) = true ∧ PyData.strOk s = true := by
  unfold nicS at h
  simp only [Bool.and_eq_true] at h
  refine ⟨?_, h.2⟩
  have h2 := h.2
  rw [← Array.all_toList] at h2
  rw [List.all_eq_true] at h2 ⊢
  intro c hc
  have := h2 c hc
  simp only [decide_eq_true_eq] at this ⊢
  omega
theorem kv_np : ∀ (ks : List Key) (ds : List PyData), ks.all nicK = true → PyData.showableAll ds = true → PyData.leavesShortAll 40 ds = true →
    PyData.showableKv ((ks.map keyPy).zip ds) = true ∧ PyData.leavesShortKv 40 ((ks.map keyPy).zip ds) = true ∧ PyData.bulkKv ((ks.map keyPy).zip ds) ≤ wtKs ks + PyData.bulkAll ds ∧ PyData.depthKv ((ks.map keyPy).zip ds) ≤ PyData.depthAll ds
  | [], ds, _, _, _ => ⟨rfl, rfl, Nat.zero_le _, Nat.zero_le _⟩
  | k :: ks, [], _, _, _ => ⟨rfl, rfl, Nat.zero_le _, Nat.zero_le _⟩
  | k :: ks, d :: ds, h, h1, h2 => by
    simp only [List.all_cons, Bool.and_eq_true] at h
    simp only [PyData.showableAll, Bool.and_eq_true] at h1
    simp only [PyData.leavesShortAll, Bool.and_eq_true] at h2
    obtain ⟨a1, a2, a3, a4⟩ := kv_np ks ds h.2 h1.2 h2.2
    have hk : (keyPy k).showable = true ∧ (keyPy k).leavesShort 40 = true ∧ (keyPy k).bulk + 1 ≤ wtK k ∧ (keyPy k).depth = 0 := by
      cases k with
      | inl i =>
        have := int_np (of_decide_eq_true h.1)
        exact ⟨this.1, this.2, by simp only [keyPy, PyData.bulk, wtK]; omega, by simp only [keyPy, PyData.depth]⟩
      | inr s => exact ⟨by simp only [keyPy, PyData.showable], by simp only [keyPy, PyData.leavesShort]; exact (str_np h.1).1, by simp only [keyPy, PyData.bulk, wtK]; omega, by simp only [keyPy, PyData.depth]⟩
    obtain ⟨b1, b2, b3, b4⟩ := hk
    simp only [List.map_cons, List.zip_cons_cons, PyData.showableKv, PyData.leavesShortKv, PyData.bulkKv, PyData.depthKv, PyData.bulkAll, PyData.depthAll, wtKs, Bool.and_eq_true]
    refine ⟨⟨⟨b1, h1.1⟩, a1⟩, ⟨⟨b2, h2.1⟩, a2⟩, ?_, ?_⟩
    · omega
    · omega
mutual
theorem nic_py : ∀ x : IV, nic x = true → ∃ d, toPy x = some d ∧ NP (wtI x) (dpI x) (noD x) d
  | .non, _ => ⟨_, rfl, by simp only [PyData.showable], by simp only [PyData.leavesShort], by simp only [PyData.bulk, wtI]; omega, by simp only [PyData.depth]; omega, fun _ => by simp only [PyData.canLay0]⟩
  | .bl b, _ => ⟨_, rfl, by simp only [PyData.showable], by simp only [PyData.leavesShort], by simp only [PyData.bulk, wtI]; omega, by simp only [PyData.depth]; omega, fun _ => by simp only [PyData.canLay0]⟩
  | .int i, h => by
    simp only [nic, decide_eq_true_eq] at h
    exact ⟨_, rfl, (int_np h).1, (int_np h).2, by simp only [PyData.bulk, wtI]; omega, by simp only [PyData.depth]; omega, fun _ => by simp only [PyData.canLay0]⟩
  | .str s, h => by
    simp only [nic] at h
    exact ⟨_, rfl, by simp only [PyData.showable], by simp only [PyData.leavesShort]; exact (str_np h).1, by simp only [PyData.bulk, wtI]; omega, by simp only [PyData.depth]; omega, fun _ => by simp only [PyData.canLay0]; exact (str_np h).2⟩
  | .tup xs, h => by
    simp only [nic] at h
    obtain ⟨ds, e, n⟩ := nicL_py xs h
    exact ⟨.tuple ds, by simp only [toPy, e, Option.map_some], by simp only [PyData.showable]; exact n.sh, by simp only [PyData.leavesShort]; exact n.lv, by have := n.bk; simp only [PyData.bulk, wtI]; omega, by have := n.dp; simp only [PyData.depth, dpI]; omega, fun z => by simp only [PyData.canLay0]; exact n.ft (by simpa only [noD] using z)⟩
  | .lst xs, h => by
    simp only [nic] at h
    obtain ⟨ds, e, n⟩ := nicL_py xs h
    exact ⟨.list ds, by simp only [toPy, e, Option.map_some], by simp only [PyData.showable]; exact n.sh, by simp only [PyData.leavesShort]; exact n.lv, by have := n.bk; simp only [PyData.bulk, wtI]; omega, by have := n.dp; simp only [PyData.depth, dpI]; omega, fun z => by simp only [PyData.canLay0]; exact n.ft (by simpa only [noD] using z)⟩
  | .dct ks xs, h => by
    simp only [nic, Bool.and_eq_true] at h
    obtain ⟨ds, e, n⟩ := nicL_py xs h.2
    obtain ⟨a1, a2, a3, a4⟩ := kv_np ks ds h.1 n.sh n.lv
    exact ⟨.dict ((ks.map keyPy).zip ds), by simp only [toPy, e, Option.map_some], by simp only [PyData.showable]; exact a1, by simp only [PyData.leavesShort]; exact a2, by have := n.bk; simp only [PyData.bulk, wtI]; omega, by have := n.dp; simp only [PyData.depth, dpI]; omega, fun z => by simp only [noD] at z; cases z⟩
  | .rol _, h => by simp only [nic] at h; cases h
  | .ty _, h => by simp only [nic] at h; cases h
  | .glb _, h => by simp only [nic] at h; cases h
  | .cell _, h => by simp only [nic] at h; cases h
  | .obj _ _ _, h => by simp only [nic] at h; cases h
theorem nicL_py : ∀ xs : List IV, nicL xs = true → ∃ ds, toPyL xs = some ds ∧ NPL (wtL xs) (dpL xs) (noDL xs) ds
  | [], _ => ⟨[], rfl, rfl, rfl, Nat.zero_le _, Nat.zero_le _, fun _ => rfl⟩
  | x :: xs, h => by
    simp only [nicL, Bool.and_eq_true] at h
    obtain ⟨d, e1, n1⟩ := nic_py x h.1
    obtain ⟨ds, e2, n2⟩ := nicL_py xs h.2
    refine ⟨d :: ds, by simp only [toPyL, e1, e2], ?_, ?_, ?_, ?_, fun z => ?_⟩
    · simp only [PyData.showableAll, n1.sh, n2.sh, Bool.and_self]
    · simp only [PyData.leavesShortAll, n1.lv, n2.lv, Bool.and_self]
    · have := n1.bk; have := n2.bk
      simp only [PyData.bulkAll, wtL]; omega
    · have := n1.dp; have := n2.dp
      simp only [PyData.depthAll, dpL]; omega
    · simp only [noDL, Bool.and_eq_true] at z
      simp only [PyData.canLayAll0, n1.ft z.1, n2.ft z.2, Bool.and_self]
end
/-! in use -/
theorem nic_repr {x : IV} (h : nic x = true) (hw : wtI x ≤ 23000) (hd : dpI x ≤ 60) : ∃ s : Str, reprOf x = some (.str s) := by
  obtain ⟨d, e, n⟩ := nic_py x h
  have h1 := PyData.shown_le_bulk 40 (by decide) d n.lv
  have h2 : d.shown.length ≤ 1000000 := by have := n.bk; omega
  refine ⟨d.shown, ?_⟩
  unfold reprOf
  rw [e]
  exact if_pos ⟨n.sh, Nat.le_trans n.dp hd, h2⟩
theorem nic_eqG {x : IV} (h : nic x = true) (hf : noD x = true) (hd : dpI x ≤ 60) : cEqG x x = some true := by
  obtain ⟨d, e, n⟩ := nic_py x h
  have hs : SeqAt.shaped d = true := by
    unfold SeqAt.shaped
    rw [n.ft hf, Bool.true_and, decide_eq_true_eq]
    have := n.dp; omega
  unfold cEqG
  rw [e]
  dsimp only
  rw [if_pos ⟨hs, hs⟩, SeqAt.eqv_refl d (n.ft hf)]
theorem nic_eqD {x : IV} (h : nic x = true) (hf : noD x = true) (hd : dpI x ≤ 60) : cEqD x x = some true := by
  cases x with
  | int i => show some (decide _) = _; simp
  | str i => show some (decide _) = _; simp
  | tup xs => cases xs with
    | nil => rfl
    | cons y ys => exact nic_eqG h hf hd
  | lst xs => cases xs with
    | nil => rfl
    | cons y ys => exact nic_eqG h hf hd
  | rol xs => simp only [nic] at h; cases h
  | _ => exact nic_eqG h hf hd
theorem nic_eq {x : IV} (h : nic x = true) (hf : noD x = true) (hd : dpI x ≤ 60) : cEq x x = some (.bl true) := by
  unfold cEq; rw [nic_eqD h hf hd]; rfl
theorem nic_ne {x : IV} (h : nic x = true) (hf : noD x = true) (hd : dpI x ≤ 60) : cNe x x = some (.bl false) := by
  unfold cNe; rw [nic_eqD h hf hd]; rfl
theorem nic_plain {x : IV} (h : nic x = true) : plainI x = true := by
  cases x with
  | str s =>
    simp only [nic, nicS, Bool.and_eq_true, decide_eq_true_eq] at h
    have h1 := h.1
    show decide (s.cps.size ≤ 1000000) = true
    simp only [decide_eq_true_eq]; omega
  | _ => first | rfl | (simp only [nic] at h; cases h)
theorem nicL_iff {xs : List IV} : nicL xs = true ↔ ∀ x ∈ xs, nic x = true := by
  induction xs with
  | nil => simp [nicL]
  | cons x xs ih => simp [nicL, ih]
theorem noDL_iff {xs : List IV} : noDL xs = true ↔ ∀ x ∈ xs, noD x = true := by
  induction xs with
  | nil => simp [noDL]
  | cons x xs ih => simp [noDL, ih]
theorem dpL_le {xs : List IV} {k : Nat} : dpL xs ≤ k ↔ ∀ x ∈ xs, dpI x ≤ k := by
  induction xs with
  | nil => simp [dpL]
  | cons x xs ih =>
    simp only [dpL, List.mem_cons, forall_eq_or_imp, ← ih]
    omega
theorem wtL_app {xs ys : List IV} : wtL (xs ++ ys) = wtL xs + wtL ys := by
  induction xs with
  | nil => simp [wtL]
  | cons x xs ih => simp only [List.cons_append, wtL, ih]; omega
theorem wtL_le {xs : List IV} {b : Nat} (h : ∀ x ∈ xs, wtI x ≤ b) : wtL xs ≤ b * xs.length := by
  induction xs with
  | nil => simp [wtL]
  | cons x xs ih =>
    have h1 := h x (by simp)
    have h2 := ih (fun y hy => h y (by simp [hy]))
    simp only [wtL, List.length_cons, Nat.mul_succ]
    omega
/-- nice, of at most this size and depth -/
structure Nice (b k : Nat) (x : IV) : Prop where
  n : nic x = true
  w : wtI x ≤ b
  d : dpI x ≤ k
theorem Nice.mono {b k b' k' : Nat} {x : IV} (h : Nice b k x) (h1 : b ≤ b') (h2 : k ≤ k') : Nice b' k' x := ⟨h.n, Nat.le_trans h.w h1, Nat.le_trans h.d h2⟩
theorem Nice.tup {b k c : Nat} {xs : List IV} (h : ∀ x ∈ xs, Nice b k x) (hc : xs.length ≤ c) : Nice (1 + b * c) (k + 1) (.tup xs) := by
  refine ⟨by simp only [nic]; exact nicL_iff.mpr fun x hx => (h x hx).n, ?_, ?_⟩
  · have := wtL_le fun x hx => (h x hx).w
    have h2 := Nat.mul_le_mul_left b hc
    simp only [wtI]; omega
  · have := dpL_le.mpr fun x hx => (h x hx).d
    simp only [dpI]; omega
theorem Nice.lst {b k c : Nat} {xs : List IV} (h : ∀ x ∈ xs, Nice b k x) (hc : xs.length ≤ c) : Nice (1 + b * c) (k + 1) (.lst xs) := by
  refine ⟨by simp only [nic]; exact nicL_iff.mpr fun x hx => (h x hx).n, ?_, ?_⟩
  · have := wtL_le fun x hx => (h x hx).w
    have h2 := Nat.mul_le_mul_left b hc
    simp only [wtI]; omega
  · have := dpL_le.mpr fun x hx => (h x hx).d
    simp only [dpI]; omega
/-- of parts: [x, y] -/
theorem Nice.two {b k b' k' : Nat} {x y : IV} (h : Nice b k x) (h2 : Nice b' k' y) : Nice (1 + b + b') (max k k' + 1) (.lst [x, y]) := by
  have := h.w; have := h2.w; have := h.d; have := h2.d
  refine ⟨by simp only [nic, nicL, h.n, h2.n, Bool.and_self], ?_, ?_⟩
  · simp only [wtI, wtL]; omega
  · simp only [dpI, dpL]; omega
theorem nice_int {i : Int} (h : i.natAbs < 10 ^ 38) : Nice 1 0 (.int i) := ⟨by simp only [nic, decide_eq_true_eq]; exact h, by simp only [wtI]; omega, by simp only [dpI]; omega⟩
theorem nice_non : Nice 1 0 .non := ⟨rfl, by simp only [wtI]; omega, by simp only [dpI]; omega⟩
theorem nice_bl {b : Bool} : Nice 1 0 (.bl b) := ⟨rfl, by simp only [wtI]; omega, by simp only [dpI]; omega⟩
theorem nice_str {s : Str} {b : Nat} (h : nicS s = true) (hb : s.cps.size + 1 ≤ b) : Nice b 0 (.str s) := ⟨by simp only [nic]; exact h, by simp only [wtI]; exact hb, by simp only [dpI]; omega⟩
/-! what a draw changes -/
structure Dr (c : Nat) (cs cs' : List Cell) : Prop where
  l : cs'.length = cs.length
  o : ∀ j, j ≠ c → cs'[j]? = cs[j]?
theorem Dr.rfl {c : Nat} {cs : List Cell} : Dr c cs cs := ⟨by simp, fun _ _ => by simp⟩
theorem Dr.tr {c : Nat} {cs cs' cs'' : List Cell} (h : Dr c cs cs') (h2 : Dr c cs' cs'') : Dr c cs cs'' := ⟨h2.l.trans h.l, fun j hj => (h2.o j hj).trans (h.o j hj)⟩
theorem draw_dr {n c : Nat} {cs : List Cell} {many : Int} (hg : Good c cs) (hm : 0 < many) : ∃ r cs', fnM 3 drawM n [.cell c, .int many] cs = .ok (.int r) cs' ∧ Good c cs' ∧ Dr c cs cs' ∧ 0 ≤ r ∧ r < many := by
  obtain ⟨ys, k, h0, hc⟩ := hg
  have e0 : ∀ i : Int, ixI cs (.cell c) (.int i) = atI [.lst (intL ys), .int k] i := fun i => ixI_cell hc
  have a0 : ∀ x y : IV, atI [x, y] 0 = some x := fun _ _ => id _root_.rfl
  have a1 : ∀ x y : IV, atI [x, y] 1 = some y := fun _ _ => id _root_.rfl
  have hlt : c < cs.length := by
    rcases Nat.lt_or_ge c cs.length with h | h
    · exact h
    · rw [List.getElem?_eq_none h] at hc; cases hc
  have hs : ∀ σ, setR σ cs (.cell c) (.int 1) (.int ((k : Int) + 1)) = .next σ (cs.set c (.lst [.lst (intL ys), .int ((k + 1 : Nat) : Int)])) := fun σ => by
    unfold setR; dsimp only; rw [hc]; rfl
  have hd : Dr c cs (cs.set c (.lst [.lst (intL ys), .int ((k + 1 : Nat) : Int)])) := ⟨by simp, fun j hj => by rw [List.getElem?_set_ne (fun z => hj z.symm)]⟩
  generalize hcs : cs.set c (.lst [.lst (intL ys), .int ((k + 1 : Nat) : Int)]) = cs' at hs hd
  have hc' : cs'[c]? = some (.lst [.lst (intL ys), .int ((k + 1 : Nat) : Int)]) := by rw [← hcs, List.getElem?_set_self hlt]
  have e0' : ∀ i : Int, ixI cs' (.cell c) (.int i) = atI [.lst (intL ys), .int ((k + 1 : Nat) : Int)] i := fun i => ixI_cell hc'
  have hl : fLen cs' [.lst (intL ys)] = some (.int ys.length) := by show some (IV.int (intL ys).length) = _; rw [intL_len]
  have hg' : Good c cs' := ⟨ys, k + 1, h0, hc'⟩
  have hi : ∀ y : Int, fInt cs' [.int y] = some (.int y) := fun y => id _root_.rfl
  by_cases hk : k < ys.length
  · obtain ⟨y, ey⟩ : ∃ y, ys[k]? = some y := ⟨_, List.getElem?_eq_getElem hk⟩
    have ei : atI (intL ys) (k : Int) = some (.int y) := by rw [atN, intL_get, ey]; rfl
    refine ⟨y % many, cs', ?_, hg', hd, Int.emod_nonneg _ (by omega), Int.emod_lt_of_pos _ hm⟩
    unfold drawM
    simp [startI, e0, a0, a1, hs, e0', hl, hk, ei, hi, modI hm, List.replicate]
  · refine ⟨0, cs', ?_, hg', hd, by omega, hm⟩
    unfold drawM
    simp [startI, e0, a0, a1, hs, e0', hl, hk, List.replicate]
/-- a loop that keeps I, up to the first bad item -/
theorem for_find {gm : GM} {b : SM} {n : Nat} {cs : List Cell} (I : List SV → Prop) (bad : IV → Bool) (R : IV → SR → Prop) : ∀ (xs : List IV) (σ : List SV), I σ →
    (∀ x ∈ xs, ∀ σ, I σ → ∃ σ1, gm x σ = some σ1 ∧ (bad x = false → ∃ σ2, b n σ1 cs = .next σ2 cs ∧ I σ2) ∧ (bad x = true → (∃ v, b n σ1 cs = .ret v cs ∧ R x (.ret v cs)) ∨ ∃ e σ2, b n σ1 cs = .ex e σ2 cs ∧ R x (.ex e σ2 cs))) →
    (xs.find? bad = none → ∃ σ', forL gm b n xs σ cs = .next σ' cs ∧ I σ') ∧ ∀ x, xs.find? bad = some x → R x (forL gm b n xs σ cs)
  | [], σ, hi, h => ⟨fun _ => ⟨σ, _root_.rfl, hi⟩, fun _ z => by cases z⟩
  | x :: xs, σ, hi, h => by
    obtain ⟨σ1, h1, h2, h3⟩ := h x (by simp) σ hi
    cases e : bad x with
    | false =>
      obtain ⟨σ2, h4, h5⟩ := h2 e
      rw [for_next h1 h4, List.find?_cons, e]
      exact for_find I bad R xs σ2 h5 fun y hy => h y (by simp [hy])
    | true =>
      refine ⟨fun z => ?_, fun y z => ?_⟩
      · rw [List.find?_cons, e] at z; cases z
      · rw [List.find?_cons, e] at z
        cases z
        rcases h3 e with ⟨v, h4, h5⟩ | ⟨ex, σ2, h4, h5⟩
        · rw [for_ret h1 h4]; exact h5
        · rw [forL, h1]; dsimp only; rw [h4]; exact h5
end SL

set_option Elab.async false
set_option linter.all false
set_option autoImplicit false
set_option maxRecDepth 100000
set_option maxHeartbeats 4000000
/-! SLSimp2: how the later mirrors are worked out. -/
namespace SL
open PySem PySem.Spec L2
open PyProof.Rows hiding St
section
variable {n : Nat} {σ : List SV} {cs cs' : List Cell}
def enT (xs : List IV) : Option (List IV) := match xs with
  | [.tup ys] => some (enI ys 0)
  | _ => none
@[simp] theorem enT_tup {xs : List IV} : enT [.tup xs] = some (enI xs 0) := id rfl
@[simp] theorem ev_mEnT {m : M (List IV)} : mEnT m n σ cs = (m n σ cs).th (k := fun xs cs1 => optR (enT xs) cs1) := by
  unfold mEnT; simp only [ev_bind, ev_opt]; rfl
def revUI (x : IV) : Option IV := match x with
  | .tup xs => some (.tup xs.reverse)
  | _ => none
@[simp] theorem revU_tup {xs : List IV} : revUI (.tup xs) = some (.tup xs.reverse) := id rfl
@[simp] theorem ev_revU {m : M IV} : eRevU m n σ cs = (m n σ cs).th (k := fun x cs1 => optR (revUI x) cs1) := by
  unfold eRevU; simp only [ev_bind, ev_opt]; rfl
@[simp] theorem ev_frz {m : M IV} : eFrz m n σ cs = (m n σ cs).th (k := fun x cs' => .ok (frzV x cs').1 (frzV x cs').2) := id rfl
@[simp] theorem ev_lstC {m : M (List IV)} : eLstC m n σ cs = (m n σ cs).th (k := fun xs cs1 => if xs.length ≤ 1000000 then .ok (.cell cs1.length) (cs1 ++ [.lst xs]) else .stuck) := id rfl
@[simp] theorem ev_dis0 : eDis0 n σ cs = .ok (.cell cs.length) (cs ++ [.dct [] []]) := id rfl
@[simp] theorem ev_getD {mo m mf : M IV} : eGetD mo m mf n σ cs = (mo n σ cs).th (k := fun x cs1 => if (dcI x cs1).isSome = true then (m n σ cs1).th (k := fun y cs2 => (mf n σ cs2).th (k := fun z cs3 => optR (dgI x y z cs3) cs3)) else .stuck) := by
  unfold eGetD; simp only [ev_bind, ev_cells]
@[simp] theorem ev_items {m : M IV} : eItems m n σ cs = (m n σ cs).th (k := fun x cs1 => optR (lisI x cs1) cs1) := by
  unfold eItems; simp only [ev_bind, ev_cells]
def newR (o : Option Cell) (cs : List Cell) : Res IV := match o with
  | some c => .ok (.cell cs.length) (cs ++ [c])
  | none => .stuck
@[simp] theorem newR_some {c : Cell} : newR (some c) cs = .ok (.cell cs.length) (cs ++ [c]) := id rfl
@[simp] theorem ev_callN {f : List Cell → List IV → Option Cell} {m : M (List IV)} : eCallN f m n σ cs = (m n σ cs).th (k := fun xs cs1 => newR (f cs1 xs) cs1) := id rfl
@[simp] theorem ev_mItems {m : M IV} : mItems m n σ cs = (m n σ cs).th (k := fun x cs1 => optR (itemsI x) cs1) := by
  unfold mItems; simp only [ev_bind, ev_opt]
@[simp] theorem ev_mKeys {m : M IV} : mKeys m n σ cs = (m n σ cs).th (k := fun x cs1 => optR (keysI x) cs1) := by
  unfold mKeys; simp only [ev_bind, ev_opt]
def nextC (o : Option (List Cell)) (σ : List SV) : SR := match o with
  | some cs => .next σ cs
  | none => .stuck
@[simp] theorem nextC_some : nextC (some cs) σ = .next σ cs := id rfl
@[simp] theorem ev_dput {mo mi m : M IV} : sDPutI mo mi m n σ cs = thS (m n σ cs) σ (k := fun v cs1 => thS (mo n σ cs1) σ (k := fun x cs2 => thS (mi n σ cs2) σ (k := fun y cs3 => nextC (dputI x y v cs3) σ))) := id rfl
@[simp] theorem ev_sFld {c f : Str} {mo m : M IV} : SL.sFld c f mo m n σ cs = thS (m n σ cs) σ (k := fun y cs1 => thS (mo n σ cs1) σ (k := fun x cs2 => nextC (stoI c f y x cs2) σ)) := id rfl
@[simp] theorem ev_eFld {c f : Str} {m : M IV} : eFld c f m n σ cs = (m n σ cs).th (k := fun x cs1 => optR (fldI c f x cs1) cs1) := by
  unfold eFld; simp only [ev_bind, ev_cells]
@[simp] theorem ev_eMk {c : Str} {fm : FM} {np : Nat} {dxs : List IV} {m : M (List IV)} : eMk c fm np dxs m n σ cs = (m n σ cs).th (k := fun xs cs1 => if (xs ++ dxs).length + 1 = np then mkI c fm (xs ++ dxs) n cs1 else .stuck) := id rfl
@[simp] theorem ev_eProp {c m : Str} {fm : FM} {mo : M IV} : eProp c m fm mo n σ cs = (mo n σ cs).th (k := fun x cs1 => if isIn c m x cs1 = true then okR (fm n [x] cs1) else .stuck) := id rfl
@[simp] theorem okR_ok {x : IV} : okR (.ok x cs) = .ok x cs := id rfl
set_option checkBinderAnnotations false in
def lstCR (o : IV) (cs1 : List Cell) [k : Nat → SR] : SR := match o with
  | .cell j => match cs1[j]? with
    | some (.lst _) => k j
    | _ => .stuck
  | _ => .stuck
def appCR (o : Option Cell) (σ : List SV) (cs2 : List Cell) (j : Nat) (x : IV) : SR := match o with
  | some (.lst xs) => if xs.length < 1000000 then .next σ (cs2.set j (.lst (xs ++ [x]))) else .stuck
  | _ => .stuck
@[simp] theorem ev_sAppC {mo m : M IV} : sAppC mo m n σ cs = thS (mo n σ cs) σ (k := fun o cs1 => lstCR o cs1 (k := fun j => thS (m n σ cs1) σ (k := fun x cs2 => appCR cs2[j]? σ cs2 j x))) := by
  unfold sAppC thS
  congr 1
theorem lstCR_of {j : Nat} {xs : List IV} {k : Nat → SR} (h : cs[j]? = some (.lst xs)) : lstCR (.cell j) cs (k := k) = k j := by
  unfold lstCR; dsimp only; rw [h]
theorem appCR_of {j : Nat} {xs : List IV} {x : IV} (h : xs.length < 1000000) : appCR (some (.lst xs)) σ cs j x = .next σ (cs.set j (.lst (xs ++ [x]))) := if_pos h
set_option checkBinderAnnotations false in
noncomputable def SR.tr (r : SR) [k : Exn → List SV → List Cell → SR] : SR := match r with
  | .ex e σ cs => k e σ cs
  | r => r
@[simp] theorem tr_ex {e : Exn} {k : Exn → List SV → List Cell → SR} : (SR.ex e σ cs).tr (k := k) = k e σ cs := id rfl
@[simp] theorem tr_ret {x : IV} {k : Exn → List SV → List Cell → SR} : (SR.ret x cs).tr (k := k) = .ret x cs := id rfl
@[simp] theorem tr_next {k : Exn → List SV → List Cell → SR} : (SR.next σ cs).tr (k := k) = .next σ cs := id rfl
@[simp] theorem ev_tryL {b : SM} {cl : List Cl} : sTryL b cl n σ cs = (b n σ cs).tr (k := fun e σ' cs' => caughtL cl e n σ' cs') := by
  unfold sTryL SR.tr; cases b n σ cs <;> rfl
end
/-- a cell freezes -/
theorem frzV_ins {cs : List Cell} {k : Nat} {c : Str} {fs : List Str} {xs : List IV} (h : cs[k]? = some (.ins c fs xs)) : frzV (.cell k) cs = (.obj c fs xs, cs.set k .dead) := by
  unfold frzV frzC; dsimp only; rw [h]
theorem frzV_dct {cs : List Cell} {k : Nat} {ks : List Key} {xs : List IV} (h : cs[k]? = some (.dct ks xs)) : frzV (.cell k) cs = (.dct ks xs, cs.set k .dead) := by
  unfold frzV frzC; dsimp only; rw [h]
theorem frzV_lst {cs : List Cell} {k : Nat} {xs : List IV} (h : cs[k]? = some (.lst xs)) : frzV (.cell k) cs = (.lst xs, cs.set k .dead) := by
  unfold frzV frzC; dsimp only; rw [h]
end SL

set_option Elab.async false
set_option linter.all false
set_option autoImplicit false
set_option maxRecDepth 100000
set_option maxHeartbeats 4000000
/-! SLIdx: text.index, membership of plain data in lists, tuples times 0 and 1. -/
namespace SL
open PySem PySem.Spec L2
open PyProof.Rows hiding St
def sIdxI : IV → IV → Option IV
  | .str a, .str b => match Builtin.Str.occurrences a b 0 a.length 1 with
    | i :: _ => some (.int (i : Nat))
    | [] => none
  | _, _ => none
def eSIdx (mo m : M IV) : M IV := mo.bind fun x => match x with
  | .str a => m.bind fun y => M.opt (sIdxI (.str a) y)
  | _ => fun _ _ _ => .stuck
section
variable {X : Cx} {n : Nat} {W : WX} {o e : Expr} {mo m : M IV} {apos pos : Pos}
theorem je_sidx (ho : JE X n W o mo) (he : JE X n W e m) (hs : starEach [e] X.env = [(false, eval e X.env)] := by rfl) (hbase : attributeBase o "index" X.env (eval o X.env) = eval o X.env := by rfl) (hline : (apos.endLine == pos.line) = true := by rfl) : JE X n W (.Call (.Attribute o "index" apos) [e] [] pos) (eSIdx mo m) := by
  refine pe_imp (pe_m1 F.slot_str_index F.type_str_index mt_sindex ho he hs hbase hline) fun σ H Q q => ?_
  obtain ⟨F, ρ, cs, σi, hs, hl, hp⟩ := q
  refine go hs hl hp fun v H1 F1 ρ1 cs1 x st1 hs1 hl1 r1 hp1 => ?_
  cases x with
  | str a =>
    refine ⟨⟨a, relStr r1⟩, go hs1 hl1 hp1 fun u H2 F2 ρ2 cs2 y st2 hs2 hl2 r2 hp2 => ?_⟩
    obtain ⟨z, hz, hq⟩ := pst_opt hp2
    cases y with
    | str b =>
      unfold sIdxI at hz
      dsimp only at hz
      split at hz
      · rename_i i rest ho
        cases hz
        exact ⟨a, b, i, rest, relStr r1, by rw [relStr r2], ho, hq F2 ρ2 H2 _ StpU.refl hs2 (by simp only [Rel])⟩
      · cases hz
    | _ => cases hz
  | _ => exact hp1.elim
end
/-- x in [..], plain data of any depth -/
def cInD (x y : IV) : Option IV := match toPy x, toPy y with
  | some d, some (.list ds) => if SeqAt.shaped d = true ∧ SeqAt.shaped (.list ds) = true then some (.bl (ds.any fun z => PyData.eqv z d)) else none
  | _, _ => none
theorem oj_inD {X : Cx} (hu : X.A.units + 65 < cLine) : OpR X (compareOp .In) (rJ (gx X) cInD) := by
  intro pins s σ H x y v u Q I rx ry h
  obtain ⟨F, ρ, cs, xi, yi, z, hs, hx, hy, hf, q⟩ := h
  unfold cInD at hf
  split at hf
  · rename_i d ds e1 e2
    split at hf
    · rename_i hh
      cases hf
      obtain ⟨as, r1⟩ := (Rel.reads I hs.fz xi hx rx e1).rd
      obtain ⟨bs, r2⟩ := (Rel.reads I hs.fz yi hy ry e2).rd
      exact SeqAt.in_list_reads r2 r1 (SeqAt.canLay_of_shaped hh.2) (SeqAt.canLay_of_shaped hh.1) (room_in_shaped hh.1 hu) ⟨.bl _, H, I, rfl, q F ρ H _ StpU.refl hs (by simp only [Rel])⟩
    · cases hf
  · cases hf
/-! tuples times 0 and 1 -/
theorem mul_one (l : Addr) (its : Array Value) (n : Nat) (dd : Option Addr) (sl : Array (Option Value)) (t : Tok) :
    Meets (Builtin.«tuple.__mul__» ⟨[.ref l, .int 1 t], []⟩) (fun _ R s => s.heap.get? l = some ⟨.type "tuple", dd, .seq its n, sl⟩ ∧ R (.ok (.ret (.ref l))) s) :=
  .of_wp fun prog w A R s h => by
    obtain ⟨hp, g, d, tk, os⟩ := s
    obtain ⟨hl, h⟩ := h
    have f1 := AutoSeq1.idx_int
    wp_walk using wpAny_loadPart' hl
    repeat (first
      | (refine wpAny_ite_true (by simp) ?_; wp_walk using wpAny_loadPart' hl)
      | (refine wpAny_ite_false (by simp) ?_; wp_walk using wpAny_loadPart' hl))
    exact ⟨_, rfl, h⟩
theorem mul_none (l : Addr) (its : Array Value) (n : Nat) (dd : Option Addr) (sl : Array (Option Value)) (k : Int) (t : Tok) (h0 : k ≤ 0) (h1 : -1000 ≤ k) (h2 : its.isEmpty = false) :
    Meets (Builtin.«tuple.__mul__» ⟨[.ref l, .int k t], []⟩) (fun _ R s => s.heap.get? l = some ⟨.type "tuple", dd, .seq its n, sl⟩ ∧ R (.ok (.ret (.ref s.heap.objs.size))) { s with heap := s.heap.push { cls := .type "tuple", data := .seq #[] } }) :=
  .of_wp fun prog w A R s h => by
    obtain ⟨hp, g, d, tk, os⟩ := s
    obtain ⟨hl, h⟩ := h
    have f1 := AutoSeq1.idx_int
    have c0 : ¬ (decide (k < -(2 ^ 63)) || decide (k ≥ 2 ^ 63)) = true := by simp; omega
    have c1 : ¬ (its.isEmpty || k == 1) = true := by
      rw [h2, Bool.false_or, beq_iff_eq]; omega
    have c2 : (decide (k ≤ 0) || its.isEmpty) = true := by rw [decide_eq_true h0, Bool.true_or]
    wp_walk using wpAny_loadPart' hl
    repeat (first
      | (refine wpAny_ite_false (decide_eq_false c0) ?_; wp_walk using wpAny_loadPart' hl)
      | (refine wpAny_ite_false (decide_eq_false c1) ?_; wp_walk using wpAny_loadPart' hl)
      | (refine wpAny_ite_true (decide_eq_true c2) ?_; wp_walk using wpAny_loadPart' hl))
    exact ⟨_, rfl, h⟩
def bMulT : IV → IV → Option IV
  | .tup xs, .int k => if xs.isEmpty = false ∧ -1000 ≤ k ∧ k ≤ 1000 ∧ xs.length ≤ 1000 then some (.tup (repL k.toNat xs)) else none
  | _, _ => none
theorem oj_mulT {X : Cx} : OpR X (binaryOp .Mult) (rJ (gx X) bMulT) := by
  intro pins s σ H x y v u Q I rx ry hh
  obtain ⟨F0, ρ, cs, xi, yi, z, hs, hx, hy, hq, q⟩ := hh
  unfold bMulT at hq
  split at hq
  · rename_i xs k
    split at hq
    · rename_i hz
      cases hq
      obtain ⟨z0, z1, z2, z3⟩ := hz
      have rx0 := hx
      simp only [Rel] at hx
      obtain ⟨a, vs, rfl, h1, r1⟩ := hx
      rw [relInt hy] at ry
      have hlen := r1.len
      have hne : vs ≠ [] := fun e => by
        rw [e] at hlen
        rw [List.eq_nil_of_length_eq_zero hlen] at z0
        cases z0
      by_cases hk : 2 ≤ k
      · refine op_repT pins s σ H _ _ v u Q I rx ry ⟨a, k, vs, rfl, rfl, sqT_mono hs.fz h1, hne, hk, z2, by rw [← hlen]; exact z3, fun p hp => ?_⟩
        obtain ⟨hs', st⟩ := hs.new (o := .tup (repL k.toNat vs)) hp
        refine q _ ρ _ _ st hs' ?_
        simp only [Rel]
        exact ⟨p, _, rfl, .inl (.inl upd_same), (r1.rep k.toNat).stp st⟩
      · obtain ⟨its, ri, ⟨⟨cls, dd, data, sl⟩, ho, hc, m, hd⟩, hsz⟩ := I.tuple (sqT_mono hs.fz h1)
        simp only at hc hd
        subst hc hd
        cases rx
        obtain ⟨t, rfl⟩ := ry
        have hie : its.toArray.isEmpty = false := by
          cases its with
          | nil =>
            have := ri.length
            exact absurd (List.eq_nil_of_length_eq_zero this) hne
          | cons b c => rfl
        refine wpAny_binaryOp_repeat_ref (T := "tuple") (U := "int") (by decide) ⟨_, ho, rfl⟩ (fun _ => typeIs_int _ k t) noFill_tuple_mul F.fills_int_mul F.slot_int_rmul
          repeat_tuple F.slot_int_index.lookup ?_
        refine call_meets F.slot_int_rmul (typeIs_int s k t) F.entry_int_rmul (F.args_int_rmul_2 _ _)
          (int_rmul_tuple k t a its.toArray m dd sl) ⟨ho, rfl, ⟨_, ho, rfl⟩, ?_⟩
        by_cases k1 : k = 1
        · subst k1
          refine call_meets F.slot_tuple_mul ⟨_, ho, rfl⟩ F.entry_tuple_mul (F.args_tuple_mul_2 _ _)
            (mul_one a its.toArray m dd sl t) ⟨ho, ⟨.ref a, H, I, rfl, q F0 ρ H _ StpU.refl hs ?_⟩⟩
          have : repL (1 : Int).toNat xs = xs := by simp [repL]
          rw [this]
          exact rx0
        · refine call_meets F.slot_tuple_mul ⟨_, ho, rfl⟩ F.entry_tuple_mul (F.args_tuple_mul_2 _ _)
            (mul_none a its.toArray m dd sl k t (by omega) z1 hie) ⟨ho, ?_⟩
          have hp : H s.heap.objs.size = none := I.hok.fresh (Nat.le_refl _)
          obtain ⟨hs', st⟩ := hs.new (o := .tup []) hp
          refine ⟨.ref s.heap.objs.size, _, I.laid (t' := s.toks) (o := .tup []) (fun b ob z => Heap.get?_push_of_some _ z) (Nat.le_refl _) ⟨by simp, _, .nil, IsTup.new _ _⟩, rfl, q _ ρ _ _ st hs' ?_⟩
          have : repL k.toNat xs = [] := by
            rw [show k.toNat = 0 by omega]; try rfl
          rw [this]
          simp only [Rel]
          exact ⟨_, [], rfl, .inl (.inl upd_same), .nil⟩
    · cases hq
  · cases hq
theorem un65 {k : Nat} {A : Around} (r : Room k A) : A.units + 65 < cLine := by have := r.un; omega
/-! T.get(k, v), T a table of the module -/
def eKget2 (tab : List (Str × IV)) (m mf : M IV) : M IV := m.bind fun y => match y with
  | .str s => mf.bind fun z => M.pure ((tabV tab s).getD z)
  | _ => fun _ _ _ => .stuck
section
variable {X : Cx} {n : Nat} {W : WX} {e f : Expr} {m mf : M IV}
theorem je_kget2 {x : Str} {d : Addr} {tab : List (Str × IV)} {ap cp np : Pos} (T : KTab X.K X.w d tab) (hm : X.mg x = some (.ref d)) (he : JE X n W e m) (hf : JE X n W f mf) (m2 : M2 X (.Name x np) "get" ap e f cp := by exact ⟨rfl, rfl, rfl, rfl⟩) (hg : Gl X x := by rfl) (hd : (x == ("__debug__" : Str)) = false := by decide) :
    JE X n W (.Call (.Attribute (.Name x np) "get" ap) [e, f] [] cp) (eKget2 tab m mf) := by
  obtain ⟨⟨es, nn, D⟩, val⟩ := T
  refine ⟨fun pins s σ H Q I h => ?_⟩
  refine wpAny_Call_method m2.base m2.few m2.line PySem.F.plainAttrs_dict PySem.F.slot_dict_get PySem.F.type_dict_get (thn ((pe_glob (v := .ref d) hg hm rfl hd).run pins s σ H (fun v H1 => v = .ref d ∧ H1 = H) I ⟨rfl, rfl⟩) fun u s1 ⟨y, H1, I1, rx, ey, eH⟩ => ?_)
  subst ey
  rw [eH] at I1
  obtain rfl : u = Value.ref d := rx
  refine ⟨kd_type D I1, fun b q => ?_, ?_⟩
  · cases q
    exact ⟨_, I1.kIn _ _ D.at_, rfl⟩
  rw [m2.trees]
  have h' : tG (gx X) n W (Rel (gx X)) m σ H fun y H2 => ∃ z, y = .str z ∧ tG (gx X) n W (Rel (gx X)) mf σ H2 fun y2 H3 => ∃ zi F ρ cs, Sim (gx X) F ρ cs H3 ∧ Rel (gx X) F ρ zi y2 ∧ ∀ v, Rel (gx X) F ρ ((tabV tab z).getD zi) v → Q v H3 := by
    obtain ⟨F, ρ, cs, σi, hs, hl, hp⟩ := h
    refine go hs hl hp fun v H1 F1 ρ1 cs1 yi st1 hs1 hl1 r1 hp1 => ?_
    cases yi with
    | str z =>
      refine ⟨z, relStr r1, go hs1 hl1 hp1 fun v2 H2 F2 ρ2 cs2 zi st2 hs2 hl2 r2 hp2 => ?_⟩
      exact ⟨zi, F2, ρ2, cs2, hs2, r2, fun v hv => hp2 F2 ρ2 H2 v StpU.refl hs2 hv⟩
    | _ => exact hp1.elim
  refine Calls.callWith_builtin rfl (Calls.evalArgs_plain (Calls.spliced_cons (thn (he.run pins s1 σ H _ I1 h') fun iv s2 ⟨y, H2, I2, ry, z, ez, q2⟩ => Calls.spliced_cons (thn (hf.run pins s2 σ H2 _ I2 q2) fun iw s3 ⟨y2, H3, I3, ry2, zi, F2, ρ2, cs2, hs2, rz, q⟩ => Calls.spliced_nil ?_))))
  subst ez
  obtain ⟨t, rfl⟩ := (show ∃ t, iv = Value.str z t from ry)
  have hm' := PySem.W.mapOf_K (prog := X.prog) (w := X.w) I3.kIn D.at_ D.lit
  obtain ⟨r, e1, e2⟩ := val z
  refine call_meetsIn PySem.F.slot_dict_get (kd_type D I3) PySem.F.entry_dict_get (PySem.F.args_dict_get_3 _ _ _) (meets_dict_get_default (strKind X.prog X.w) d (strKind_is X.prog X.w z t) D.low iw) ⟨_, hm', ?_⟩
  show EP X pins σ Q ((findBy Value.isStrOf es z).getD iw) _
  rw [PySem.W.find_K D.at_ e1]
  rcases e2 with ⟨a, rfl⟩ | ⟨x', u, v, a, rfl, rv, rr⟩
  · refine ⟨y2, H3, I3.tok _, ry2, q _ ?_⟩
    rw [a]
    exact rz
  · refine ⟨v, H3, I3.tok _, rv, q _ ?_⟩
    rw [a]
    exact rr _ _ _
end
section
variable {n : Nat} {σ : List SV} {cs : List Cell}
theorem ev_kget2 {tab : List (Str × IV)} {m mf : M IV} {s : Str} {cs1 : List Cell} (h : m n σ cs = .ok (.str s) cs1) : eKget2 tab m mf n σ cs = (mf n σ cs1).th (k := fun z cs2 => .ok ((tabV tab s).getD z) cs2) := by
  unfold eKget2; rw [ev_bind, h, then_ok]; try rfl
theorem ev_sidx {mo m : M IV} {s : Str} {cs1 : List Cell} (h : mo n σ cs = .ok (.str s) cs1) : eSIdx mo m n σ cs = (m n σ cs1).th (k := fun y cs2 => optR (sIdxI (.str s) y) cs2) := by
  unfold eSIdx; rw [ev_bind, h, then_ok]; simp only [ev_bind, ev_opt]
end
end SL

set_option Elab.async false
set_option linter.all false
set_option autoImplicit false
set_option maxRecDepth 100000
set_option maxHeartbeats 4000000
/-! SLText: methods of texts: join. -/
namespace SL
open PySem PySem.Spec L2
open PyProof.Rows hiding St
def strsI : List IV → Option (List Str)
  | [] => some []
  | .str s :: r => (strsI r).map (s :: ·)
  | _ :: _ => none
theorem strsI_of : ∀ {xs : List IV} {ss : List Str}, strsI xs = some ss → xs = ss.map IV.str
  | [], ss, h => by cases h; rfl
  | x :: r, ss, h => by
    cases x with
    | str s =>
      obtain ⟨t, h1, rfl⟩ := Option.map_eq_some_iff.mp h
      rw [strsI_of h1]; rfl
    | _ => cases h
theorem strsI_map : ∀ (ss : List Str), strsI (ss.map IV.str) = some ss
  | [] => rfl
  | s :: r => by rw [List.map_cons, strsI, strsI_map r]; rfl
theorem relL_strs {g : Gx} {F : Hp} {ρ : List Addr} : ∀ {ss : List Str} {vs : List V}, RelL g F ρ (ss.map IV.str) vs → vs = ss.map V.str
  | [], vs, h => by
    simp only [List.map_nil, RelL] at h
    exact h
  | s :: r, vs, h => by
    simp only [List.map_cons, RelL] at h
    obtain ⟨v, t, rfl, h1, h2⟩ := h
    rw [relStr h1, relL_strs h2]; rfl
def joinI (a : Str) (y : IV) : Option IV := match y with
  | .lst xs => (strsI xs).bind fun ss => if (ss.map (·.length)).sum + ss.length * a.length ≤ lim then some (.str (Txt.join a ss)) else none
  | .tup xs => (strsI xs).bind fun ss => if (ss.map (·.length)).sum + ss.length * a.length ≤ lim then some (.str (Txt.join a ss)) else none
  | _ => none
/-- s.join(xs) -/
def eJoin (mo m : M IV) : M IV := mo.bind fun x => match x with
  | .str a => m.bind fun y => M.opt (joinI a y)
  | _ => fun _ _ _ => .stuck
section
variable {X : Cx} {n : Nat} {W : WX} {o e : Expr} {mo m : M IV} {apos pos : Pos}
theorem je_join (ho : JE X n W o mo) (he : JE X n W e m) (hs : starEach [e] X.env = [(false, eval e X.env)] := by rfl) (hbase : attributeBase o "join" X.env (eval o X.env) = eval o X.env := by rfl) (hline : (apos.endLine == pos.line) = true := by rfl) : JE X n W (.Call (.Attribute o "join" apos) [e] [] pos) (eJoin mo m) := by
  refine pe_imp (pe_join ho he hs hbase hline) fun σ H Q q => ?_
  obtain ⟨F, ρ, cs, σi, hs, hl, hp⟩ := q
  refine go hs hl hp fun v H1 F1 ρ1 cs1 x st1 hs1 hl1 r1 hp1 => ?_
  cases x with
  | str a =>
    refine ⟨⟨a, relStr r1⟩, go hs1 hl1 hp1 fun u H2 F2 ρ2 cs2 y st2 hs2 hl2 r2 hp2 => ?_⟩
    obtain ⟨z, hz, hq⟩ := pst_opt hp2
    unfold joinI at hz
    split at hz
    · obtain ⟨ss, h1, h2⟩ := Option.bind_eq_some_iff.mp hz
      split at h2
      · rename_i hc
        cases h2
        obtain ⟨p, vs, rfl, h3, h4⟩ := relLst r2
        rw [strsI_of h1] at h4
        have ev := relL_strs h4
        subst ev
        exact ⟨a, p, ss, relStr r1, rfl, .inl (sqL_mono hs2.fz h3), Nat.le_trans hc (by decide), hq F2 ρ2 H2 _ StpU.refl hs2 (by simp only [Rel])⟩
      · cases h2
    · obtain ⟨ss, h1, h2⟩ := Option.bind_eq_some_iff.mp hz
      split at h2
      · rename_i hc
        cases h2
        obtain ⟨p, vs, rfl, h3, h4⟩ := relTup r2
        rw [strsI_of h1] at h4
        have ev := relL_strs h4
        subst ev
        exact ⟨a, p, ss, relStr r1, rfl, .inr (sqT_mono hs2.fz h3), Nat.le_trans hc (by decide), hq F2 ρ2 H2 _ StpU.refl hs2 (by simp only [Rel])⟩
      · cases h2
    · cases hz
  | _ => exact hp1.elim
theorem ev_join {σ : List SV} {cs cs1 : List Cell} {a : Str} (h : mo n σ cs = .ok (.str a) cs1) : eJoin mo m n σ cs = (m n σ cs1).th (k := fun y cs2 => optR (joinI a y) cs2) := by
  unfold eJoin; rw [ev_bind, h, then_ok]; simp only [ev_bind, ev_opt]
@[simp] theorem ev_eMeth {c nm : Str} {fm : FM} {np : Nat} {dxs : List IV} {a : M (List IV)} {σ : List SV} {cs : List Cell} : eMeth c nm fm np dxs mo a n σ cs = (mo n σ cs).th (k := fun x cs1 => if isIn c nm x cs1 = true then (a n σ cs1).th (k := fun xs cs2 => if (x :: (xs ++ dxs)).length = np then fm n (x :: (xs ++ dxs)) cs2 else .stuck) else .stuck) := id rfl
end
end SL

set_option Elab.async false
set_option linter.all false
set_option autoImplicit false
set_option maxRecDepth 100000
set_option maxHeartbeats 4000000
/-! SLStar: {**d, k: v, ..}. -/
namespace SL
open PySem PySem.Spec L2
section
variable {prog : Program} {w : World} {K : Type} [DecidableEq K] {kd : KeyKind prog w K} {A : Around} {E : Value → Shared → Prop}
/-- an entry is put -/
theorem put_ok {s : Shared} {d : Addr} {old : List (K × Value)} {c : K} {cv y : Value} {Q : Unit → Shared → Prop} (hc : kd.is c cv = true) (hd : s.heap.DictOf kd d old) (hz : old.length ≤ sizeLine)
    (hq : ∀ hp, hp.DictOf kd d (stored old c y) → Heap.SameBut d s.heap hp → Q () { s with heap := hp }) : wpAny (model prog w) A (dictPut d (kd.hash c) cv y) Q E s := by
  obtain ⟨ob, es, ep, h1, h2, h3, h4, h5, h6⟩ := hd
  have hes : es.size ≤ sizeLine := by
    have e1 := h5.length
    have e2 : es.toList.length = es.size := Array.length_toList
    omega
  unfold dictPut
  refine wpAny_bind (wpAny_dictFind_of hc h1 h3 h4 ?_)
  have hi : (es.findIdx? fun e => kd.is c e.key) = old.findIdx? fun p => decide (p.1 = c) := by
    rw [← h5.findIdx c]
    obtain ⟨l⟩ := es
    simp
  cases q : es.findIdx? fun e => kd.is c e.key with
  | some i =>
    have ha := any_of_findIdx_some (hi ▸ q)
    refine wpAny_updateDict h1 h3 (hq _ ⟨_, _, ep, Heap.get?_update_self _ h1 (Obj.isFreed_of_dict (Obj.data_mapDict h3 _)), h2.mapDict _, Obj.data_mapDict h3 _, h4.modify _ _, ?_, ?_⟩ (Heap.SameBut.update ..))
    · have hl : (es.toList.findIdx? fun e => kd.is c e.key) = some i := by
        rw [← q]
        obtain ⟨l⟩ := es
        simp
      have z := h5.modify h6 hl y
      rw [stored, if_pos ha]
      obtain ⟨l⟩ := es
      simpa using z
    · rw [stored, if_pos ha, keys_map_store]
      exact h6
  | none =>
    have hno := not_mem_of_findIdx_none (hi ▸ q)
    have ha : ¬ (old.any fun p => decide (p.1 = c)) = true := fun z => by
      obtain ⟨p, hp, e⟩ := List.any_eq_true.mp z
      exact hno (List.mem_map.mpr ⟨p, hp, of_decide_eq_true e⟩)
    refine wpAny_updateDictKeys (hz := hes) h1 h3 (hq _ ⟨_, _, ep + 1, Heap.get?_update_self _ h1 (Obj.isFreed_of_dict (Obj.data_mapDictKeys h3 _)), h2.mapDictKeys _, Obj.data_mapDictKeys h3 _, h4.push hc _, ?_, ?_⟩ (Heap.SameBut.update ..))
    · have z := h5.append hc (kd.hash c) y
      rw [stored, if_neg ha]
      obtain ⟨l⟩ := es
      simpa using z
    · rw [stored, if_neg ha, List.map_append, List.nodup_append]
      refine ⟨h6, by simp, fun a h b h' => ?_⟩
      rw [List.map_cons, List.map_nil, List.mem_singleton] at h'
      subst h'
      exact fun e => hno (e ▸ h)
/-- all entries of a dict are put into another one -/
theorem merge_ok {s : Shared} {d a : Addr} {old more : List (K × Value)} {Q : Unit → Shared → Prop} (hne : d ≠ a) (hsys : (a == sysModules) = false) (hd : s.heap.DictOf kd d old) (ha : s.heap.DictOf kd a more) (hz : old.length + more.length ≤ sizeLine)
    (hq : ∀ hp, hp.DictOf kd d (merged old more) → Heap.SameBut d s.heap hp → Q () { s with heap := hp }) : wpAny (model prog w) A (mergeMapping d (.ref a) false) Q E s := by
  have tA := ha.typeIs
  obtain ⟨oa, es, ep, h1, h2, h3, h4, h5, h6⟩ := ha
  have hl : more.length = es.size := by rw [← h5.length, Array.length_toList]
  obtain ⟨od, ed, epd, g1, g2, g3, g4, g5, g6⟩ := id hd
  unfold mergeMapping
  refine wpAny_bind (wpAny_isInstance (T := "dict") tA PySem.F.sub_dict_dict ?_)
  rw [if_pos rfl]
  refine wpAny_bind (wpAny_specialOf tA PySem.F.slot_dict_iter.lookup (wpAny_bind (wpAny_pure ?_)))
  rw [beq_self_eq_true]
  dsimp only
  rw [if_neg (by rw [hsys]; exact Bool.false_ne_true)]
  refine wpAny_bind (wpAny_dictEntries g1 g3 ?_)
  have walk : ∀ hp, hp = s.heap → wpAny (model prog w) A (do
      let l ← dictEntries a
      let n := l.size
      let epoch ← dictEpoch a
      forIn (List.range n) PUnit.unit fun i (_ : PUnit) => (do
        let l2 ← dictEntries a
        match l2[i]? with
        | some e => do
          holding [e.key, e.val] (dictPut d e.hash e.key e.val)
          let e2 ← dictEpoch a
          if (e2 != epoch) = true then do
              (unsupported "dict.changed-during-merge" : Sem PUnit)
              pure (ForInStep.yield PUnit.unit)
            else pure (ForInStep.yield PUnit.unit)
        | _ => do
          (unsupported "dict.changed-during-merge" : Sem PUnit)
          pure (ForInStep.yield PUnit.unit) : Sem (ForInStep PUnit))
      pure ()) Q E { s with heap := hp } := by
    rintro _ rfl
    refine wpAny_bind (wpAny_dictEntries h1 h3 (wpAny_bind (wpAny_dictEpoch h1 h3 (wpAny_bind ?_))))
    rw [List.range_eq_range']
    refine wpAny_forIn_list _ (fun rest _ t => ∃ hp j, t = { s with heap := hp } ∧ rest = List.range' j (es.size - j) ∧ j ≤ es.size ∧ hp.DictOf kd d (merged old (more.take j)) ∧ hp.get? a = some oa ∧ Heap.SameBut d s.heap hp) _ ?_ ?_ _ _ ⟨s.heap, 0, rfl, rfl, Nat.zero_le _, hd, h1, Heap.SameBut.refl _ _⟩
    · rintro i rest _ _ ⟨hp, j, rfl, er, hj, k1, k2, k3⟩
      have hlt : j < es.size := by
        by_cases z : j < es.size
        · exact z
        · rw [show es.size - j = 0 by omega] at er; cases er
      have e1 : es.size - j = (es.size - (j + 1)) + 1 := by omega
      rw [e1, List.range'_succ] at er
      obtain ⟨rfl, er⟩ := List.cons.inj er
      refine wpAny_bind (wpAny_dictEntries k2 h3 ?_)
      rw [Array.getElem?_eq_getElem hlt]
      have hm : more[i]? = some (more[i]'(by omega)) := List.getElem?_eq_getElem _
      generalize more[i]'(by omega) = p at hm
      obtain ⟨c, y⟩ := p
      obtain ⟨hc, hy⟩ := h5.get? (i := i) (e := es[i]) (by rw [Array.getElem?_toList]; exact Array.getElem?_eq_getElem hlt) hm
      obtain ⟨c', hc', hh⟩ := h4 es[i] (Array.getElem_mem hlt)
      have ec : c' = c := kd.inj _ _ _ hc' hc
      have hy2 : es[i].val = y := hy
      dsimp only
      rw [hh, hy2, ec]
      have hz2 : (merged old (more.take i)).length ≤ sizeLine := by
        have q1 := merged_length_le old (more.take i)
        have q2 : (more.take i).length ≤ more.length := by rw [List.length_take]; omega
        omega
      refine wpAny_bind (wpAny_holding (put_ok (s := { s with heap := hp }) hc k1 hz2 fun hp2 m1 m2 => ?_))
      have k4 : hp2.get? a = some oa := (m2.2 a (fun z => hne z.symm)).trans k2
      refine wpAny_bind (wpAny_dictEpoch k4 h3 ?_)
      rw [if_neg (by simp)]
      refine wpAny_pure ⟨hp2, i + 1, rfl, er, hlt, ?_, k4, k3.trans m2⟩
      rw [merged_take_succ old more i (c, y) hm]
      exact m1
    · rintro _ _ ⟨hp, j, rfl, er, hj, k1, k2, k3⟩
      have hj2 : j = es.size := by
        by_cases z : j = es.size
        · exact z
        · rw [show es.size - j = (es.size - (j + 1)) + 1 by omega, List.range'_succ] at er; cases er
      rw [hj2, ← hl, List.take_length] at k1
      exact wpAny_pure (hq hp k1 k3)
  split
  · refine wpAny_bind (wpAny_dictEntries h1 h3 ?_)
    refine wpAny_bind ?_
    rw [← Array.forIn_toList]
    refine wpAny_forIn_list _ (fun rest _ t => t = s ∧ ∀ e ∈ rest, e ∈ es) _ ?_ ?_ _ _ ⟨rfl, fun e he => by simpa using he⟩
    · rintro e rest _ _ ⟨rfl, he⟩
      obtain ⟨c, hc, _⟩ := h4 e (he e (by simp))
      have hb := kd.byValue c e.key hc
      cases q : e.key with
      | ref r => rw [q] at hb; cases hb
      | _ => exact wpAny_pure ⟨rfl, fun x hx => he x (by simp [hx])⟩
    · rintro _ _ ⟨rfl, _⟩
      exact walk _ rfl
  · exact walk _ rfl
theorem gather_on (d : Addr) (f : (Option (Sem Value) × Sem Value) → (Option Addr × List (Sem Value × Sem Value)) → Sem (ForInStep (Option Addr × List (Sem Value × Sem Value))))
    (hf : ∀ (q : Sem Value × Sem Value) (run : List (Sem Value × Sem Value)), run.length < 16 → f (some q.1, q.2) (some d, run) = pure (.yield (some d, run ++ [q]))) :
    ∀ (qs run : List (Sem Value × Sem Value)), run.length + qs.length < 17 → forIn (qs.map fun q => (some q.1, q.2)) (some d, run) f = pure (some d, run ++ qs)
  | [], run, _ => by rw [List.map_nil, List.forIn_nil, List.append_nil]
  | q :: qs, run, h => by
    have hl : run.length + (qs.length + 1) < 17 := h
    have ih := gather_on d f hf qs (run ++ [q]) (by rw [List.length_append, List.length_singleton]; omega)
    rw [List.map_cons, List.forIn_cons, hf q run (by omega), pure_bind]
    dsimp only
    rw [ih, List.append_assoc]
    rfl
/-- a display that begins with ** -/
theorem star_ok {s : Shared} {t0 : Sem Value} {qs : List (Sem Value × Sem Value)} {Q : Value → Shared → Prop} (h0 : qs ≠ []) (hlen : qs.length ≤ 15)
    (h : wpAny (model prog w) A t0 (fun m s1 => ∃ a more, m = .ref a ∧ s.heap.objs.size ≠ a ∧ (a == sysModules) = false ∧ s1.heap.DictOf kd s.heap.objs.size [] ∧ s1.heap.DictOf kd a more ∧ more.length ≤ sizeLine ∧
      ∀ hp, hp.DictOf kd s.heap.objs.size more → Heap.SameBut s.heap.objs.size s1.heap hp → wpAny (model prog w) A (evalPairs qs) (fun vs s2 => ∃ kvs more2, Carries kd vs kvs ∧ s2.heap.DictOf kd hp.objs.size [] ∧ s2.heap.DictOf kd s.heap.objs.size more2 ∧
        s.heap.objs.size ≠ hp.objs.size ∧ (hp.objs.size == sysModules) = false ∧ more2.length + kvs.length ≤ sizeLine ∧ ∀ h2 h3, h2.DictOf kd hp.objs.size (merged [] kvs) → Heap.SameBut hp.objs.size s2.heap h2 → h3.DictOf kd s.heap.objs.size (merged more2 (merged [] kvs)) →
          Heap.SameBut s.heap.objs.size h2 h3 → Q (.ref s.heap.objs.size) { s2 with heap := h3, toks := s2.toks + vs.length }) E { s1 with heap := hp.push { cls := .type "dict", data := .dict #[] } }) E
      { s with heap := s.heap.push { cls := .type "dict", data := .dict #[] } }) : wpAny (model prog w) A (dictDisplay ((none, t0) :: qs.map fun q => (some q.1, q.2))) Q E s := by
  unfold dictDisplay
  dsimp only
  rw [List.forIn_cons]
  refine wpAny_bind (wpAny_bind ?_)
  dsimp only [List.isEmpty_nil]
  rw [if_pos rfl, pure_bind]
  dsimp only
  refine wpAny_bind (wpAny_alloc ?_)
  refine wpAny_bind (wpAny_holding (wpAny_mono h (fun m s1 hm => ?_) fun _ _ z => z))
  obtain ⟨a, more, rfl, hne, hsys, k1, k2, hz, hm⟩ := hm
  have hnd : (more.map (·.1)).Nodup := let ⟨_, _, _, _, _, _, _, _, z⟩ := k2; z
  refine wpAny_bind (wpAny_onRaise (wpAny_tryCatch (wpAny_onRaise (wpAny_holding (merge_ok hne hsys k1 k2 (by simpa using hz) fun hp d1 d2 => ?_)))))
  rw [merged_nil_of_nodup more hnd] at d1
  refine wpAny_pure ?_
  dsimp only
  rw [gather_on _ _ (fun q run hq => by
    have hb : ((run ++ [(q.1, q.2)]).length == 17) = false := by
      rw [List.length_append, List.length_singleton, beq_eq_false_iff_ne]; omega
    dsimp only
    rw [hb]
    rfl) qs [] (by rw [List.length_nil]; omega)]
  refine wpAny_pure ?_
  rw [List.nil_append]
  dsimp only
  rw [if_neg (by simpa using h0)]
  have hm := hm hp d1 d2
  refine wpAny_bind (wpAny_bind (wpAny_holding (wpAny_subDict (knd := kd) (s := { s1 with heap := hp }) hlen (wpAny_mono hm (fun vs s2 q => ?_) fun _ _ z => z))))
  obtain ⟨kvs, more2, c1, c2, c3, c4, c5, c6, q⟩ := q
  refine ⟨kvs, c1, c2, fun h2 e1 e2 => ?_⟩
  have hle := merged_length_le [] kvs
  rw [List.length_nil, Nat.zero_add] at hle
  have c7 : h2.DictOf kd s.heap.objs.size more2 := c3.sameBut e2 c4
  refine wpAny_bind (wpAny_onRaise (wpAny_holding (merge_ok c4 c5 c7 e1 (by omega) fun h3 f1 f2 => ?_)))
  exact wpAny_pure (wpAny_pure (q h2 h3 e1 e2 f1 f2))
end
/-- {**e, k: v, ..} -/
def tStar (te : TE) (trs : List (TE × TE)) : TE := fun σ H Q => ∀ p, H p = none → te σ (upd H p (.dK [])) fun x H1 => H1 p = some (.dK []) ∧ ∃ a more, x = .ref a ∧ a ≠ p ∧ Rd H1 a (.dK more) ∧
  ∀ q, upd H1 p (.dK more) q = none → tPairs trs σ (upd (upd H1 p (.dK more)) q (.dK [])) fun ps H2 => H2 p = some (.dK more) ∧ H2 q = some (.dK []) ∧ ∃ kvs : List (Key × V), ps = kvs.map (fun z => (kV z.1, z.2)) ∧ kvs.length ≤ 15 ∧ more.length + kvs.length ≤ sizeLine ∧
    Q (.ref p) (upd (upd H2 q (.dK (mergeK [] kvs))) p (.dK (mergeK more (mergeK [] kvs))))
theorem pe_star {X : Cx} {pos : Pos} {e : Expr} {keys : List (Option Expr)} {vals : List Expr} {te : TE} {trs : List (TE × TE)} (he : PE X e te) (h : PPs X pos keys vals trs) (hall : keys.all (·.isSome) = true) (hl : keys.length = vals.length) (h0 : keys ≠ [])
    (h15 : keys.length ≤ 15) : PE X (.Dict (none :: keys) (e :: vals) pos) (tStar te trs) := by
  refine ⟨fun pins s σ H Q I q => ?_⟩
  rw [arm_eval_Dict]
  refine wpAny_bind (wpAny_standAt ?_)
  have hshape : (evalEachOpt (none :: keys) X.env).zip ((evalEach (e :: vals) X.env).map fun v => do let x ← v; standAt pos; pure x) = (none, do let x ← eval e X.env; standAt pos; pure x) :: (pairTrees keys vals X.env pos).map fun q => (some q.1, q.2) := by
    rw [← zip_pairTrees keys vals X.env pos hall hl]
    rfl
  rw [hshape]
  have hn := pairTrees_length keys vals X.env pos hall hl
  have hp0 := I.hok.fresh (Nat.le_refl s.heap.objs.size)
  have I1 := I.laid (a := s.heap.objs.size) (o := .dK []) (h' := s.heap.push { cls := .type "dict", data := .dict #[] }) (t' := s.toks) (fun _ _ z => Heap.get?_push_of_some _ z) (Nat.le_refl _) (dk_empty s.heap I.big)
  refine star_ok (kd := mixKind X.prog X.w) (fun z => h0 (List.length_eq_zero_iff.mp (by rw [z] at hn; exact hn.symm))) (by rw [hn]; exact h15) (wpAny_bind (thn (he.run pins _ σ _ _ I1 (q _ hp0)) fun u s1 ⟨x, H1, I2, rx, e1, a, more, ex, hne, hrd, q1⟩ => wpAny_bind (wpAny_standAt (wpAny_pure ?_))))
  subst ex
  obtain rfl : u = Value.ref a := rx
  obtain ⟨z1, y1, vs1, r1, d1⟩ := dk_rd I2.hok hrd
  obtain ⟨z2, y2, vs2, r2, d2⟩ := dk_of I2.hok e1
  cases r2
  refine ⟨a, vs1, rfl, fun z => hne z.symm, y1, d2, d1, by rw [← r1.length]; exact z1, fun hp dp sp => ?_⟩
  have I3 : Inv X pins σ (upd H1 s.heap.objs.size (.dK more)) { s1 with heap := hp, toks := s1.toks } := d_write I2 (by rw [e1]; exact True.intro) sp (let ⟨o, _, _, z, _⟩ := dp; ⟨o, z⟩) (dk_new z1 y2 r1 dp)
  have hq0 := I3.hok.fresh (Nat.le_refl hp.objs.size)
  have I4 := I3.laid (a := hp.objs.size) (o := .dK []) (h' := hp.push { cls := .type "dict", data := .dict #[] }) (t' := s1.toks) (fun _ _ z => Heap.get?_push_of_some _ z) (Nat.le_refl _) (dk_empty hp I3.big)
  refine thn (h.run pins _ σ _ _ I4 (q1 _ hq0)) fun ws s2 ⟨ps, H2, I5, rel, e2, e3, kvs, ep, lk, lt, q2⟩ => ?_
  subst ep
  obtain ⟨rs, c, rk⟩ := carries_of (P := X.prog) (w := X.w) rel
  obtain ⟨z5, y5, vs5, r5, d5⟩ := dk_of I5.hok e2
  obtain ⟨z6, y6, vs6, r6, d6⟩ := dk_of I5.hok e3
  cases r6
  have hpq : s.heap.objs.size ≠ hp.objs.size := ne_of_none (H := upd H1 s.heap.objs.size (.dK more)) upd_same hq0
  have hkr := rk.length
  have hmr := r5.length
  refine ⟨rs, vs5, c, d6, d5, hpq, y6, by rw [← hmr, ← hkr]; exact lt, fun h2 h3 a1 a2 a3 a4 => ?_⟩
  have rm := rk.merge (kvs := []) (vs := []) .nil
  have l1 : (mergeK [] kvs).length ≤ kvs.length := by have := length_mergeK kvs []; simpa using this
  have l2 : (mergeK more (mergeK [] kvs)).length ≤ sizeLine := by have := length_mergeK (mergeK [] kvs) more; omega
  have I6 : Inv X pins σ (upd H2 hp.objs.size (.dK (mergeK [] kvs))) { s2 with heap := h2, toks := s2.toks } := d_write I5 (by rw [e3]; exact True.intro) a2 (let ⟨o, _, _, z, _⟩ := a1; ⟨o, z⟩) (dk_new (by rw [sizeLine_eq]; omega) y6 rm a1)
  have e4 : upd H2 hp.objs.size (.dK (mergeK [] kvs)) s.heap.objs.size = some (.dK more) := by rw [upd_ne hpq]; exact e2
  have I7 := d_write (t' := s2.toks + ws.length) (ob := .dK (mergeK more (mergeK [] kvs))) I6 (by rw [e4]; exact True.intro) a4 (let ⟨o, _, _, z, _⟩ := a3; ⟨o, z⟩) (dk_new l2 y2 (rm.merge r5) a3)
  exact ⟨.ref s.heap.objs.size, _, I7, rfl, q2⟩
open PyProof.Rows hiding St
/-! the mirror -/
section
variable {g : Gx} {F F1 F2 : Hp} {ρ ρ1 ρ2 : List Addr} {cs : List Cell} {H H1 H2 : Hp} {p : Addr} {o : HO}
theorem laid_keeps (hp : H p = some o) (ho : NoTbl o) (hf : F p = none) (hn : p ∉ ρ) (t : Stp F ρ H F2 ρ2 H2) : H2 p = some o ∧ F2 p = none ∧ p ∉ ρ2 := by
  refine ⟨t.fr p o hp ho hn (fun z => z), ?_, fun z => ?_⟩
  · cases q : F2 p with
    | none => rfl
    | some u =>
      rcases t.fn p (by rw [q]; intro z; cases z) hf with z | z | z
      · rw [hp] at z; cases z
      · exact z.elim
      · exact absurd z hn
  · rcases t.rn p z hn with q | q
    · rw [hp] at q; cases q
    · exact q
/-- a thing that no mirror knows is changed -/
theorem Sim.bgset (hs : Sim g F ρ cs H) (hf : F p = none) (hn : p ∉ ρ) (hx : NoX (H p)) : Sim g F ρ cs (upd H p o) := by
  have np : ∀ a ∈ ρ, a ≠ p := fun a ha z => hn (z ▸ ha)
  refine ⟨fun a u h => ?_, hs.len, hs.nd, fun a ha => by rw [upd_ne (np a ha)]; exact hs.av a ha, hs.lv, fun n c a h1 h2 => ?_, tabs_upd hs.tb hx, fun a ha => by rw [upd_ne (np a ha)]; exact hs.nx a ha, hs.ft⟩
  · rw [upd_ne (fun z => by rw [z, hf] at h; cases h)]
    exact hs.fz a u h
  · rw [upd_ne (np a (List.mem_of_getElem? h2))]
    exact hs.ok n c a h1 h2
/-- .. and stands still from now on -/
theorem Sim.bgfrz (hs : Sim g F ρ cs H) (hf : F p = none) (hn : p ∉ ρ) (hx : NoX (H p)) (ho : ∀ ps, o ≠ .tbl ps) : Sim g (upd F p o) ρ cs (upd H p o) := by
  have np : ∀ a ∈ ρ, a ≠ p := fun a ha z => hn (z ▸ ha)
  have fm : ∀ b u, F b = some u → upd F p o b = some u := fun b u h => upd_none hf h
  refine ⟨fun a u h => ?_, hs.len, hs.nd, fun a ha => by rw [upd_ne (np a ha)]; exact hs.av a ha, fun n c a h1 h2 h3 => by rw [upd_ne (np a (List.mem_of_getElem? h2))]; exact hs.lv n c a h1 h2 h3, fun n c a h1 h2 => ?_, tabs_upd hs.tb hx, fun a ha => by rw [upd_ne (np a ha)]; exact hs.nx a ha, ft_upd hs.ft ho⟩
  · by_cases z : a = p
    · subst z; rw [upd_same] at h ⊢; exact h
    · rw [upd_ne z] at h ⊢; exact hs.fz a u h
  · rw [upd_ne (np a (List.mem_of_getElem? h2))]
    exact (hs.ok n c a h1 h2).mono fm ⟨[], by simp⟩
theorem Stp.bgset (t : Stp F ρ H F1 ρ1 H1) (hp : H p = none) : Stp F ρ H F1 ρ1 (upd H1 p o) := by
  refine ⟨t.fz, t.fn, t.rp, t.rn, fun a u h nt hr hu => ?_, fun a h => ?_⟩
  · rw [upd_ne (fun z => by rw [z, hp] at h; cases h)]
    exact t.fr a u h nt hr hu
  · by_cases z : a = p
    · rw [z, upd_same]; intro y; cases y
    · rw [upd_ne z]; exact t.dm a h
theorem Stp.bgfrz (t : Stp F ρ H F1 ρ1 H1) (hp : H p = none) (hf : F1 p = none) : Stp F ρ H (upd F1 p o) ρ1 (upd H1 p o) := by
  have t2 := t.bgset (o := o) hp
  refine ⟨fun a u h => upd_none hf (t.fz a u h), fun a h h' => ?_, t.rp, t.rn, t2.fr, t2.dm⟩
  by_cases z : a = p
  · left; rw [z]; exact hp
  · rw [upd_ne z] at h; exact t.fn a h h'
theorem goB {α β γ δ : Type} {n : Nat} {W : WX} {R : RR α β} {R' : RR γ δ} {σ : St} {σi : List SV} {m : M α} {k : α → List Cell → Res γ} {Q : β → Hp → Prop} {Q2 : δ → Hp → Prop} (hs : Sim g F1 ρ1 cs H1) (t : Stp F ρ H F1 ρ1 H1) (hl : Slts g F ρ H σi σ) (hp : Pst g W σ R' F ρ H ((m n σi cs).then k) Q2)
    (h : ∀ v H2 F2 ρ2 cs2 x, Stp F1 ρ1 H1 F2 ρ2 H2 → Sim g F2 ρ2 cs2 H2 → R F2 ρ2 x v → Pst g W σ R' F ρ H (k x cs2) Q2 → Q v H2) : tG g n W R m σ H1 Q := by
  refine ⟨F1, ρ1, cs, σi, hs, hl.stp t, ?_⟩
  cases e : m n σi cs with
  | ok x cs2 =>
    rw [e] at hp
    exact fun F2 ρ2 H2 v st sm r => h v H2 F2 ρ2 cs2 x st sm r hp
  | ex ee cs2 =>
    rw [e] at hp
    exact fun F2 ρ2 H2 cls d st sm r => hp F2 ρ2 H2 cls d (t.tr st) sm r
  | stuck =>
    rw [e] at hp
    exact hp
end
def starI (x : IV) (qs : List (IV × IV)) : Option IV := match x with
  | .dct ks xs => (prsI qs).bind fun kvs => if kvs.length ≤ 15 ∧ ks.length + kvs.length ≤ lim then some (dctI (mergeG (ks.zip xs) (mergeG [] kvs))) else none
  | _ => none
def eStar (m : M IV) (ps : MPs) : M IV := m.bind fun x => if isDct x = true then (mPrs ps).bind fun qs => M.opt (starI x qs) else fun _ _ _ => .stuck
section
variable {X : Cx} {n : Nat} {W : WX} {e : Expr} {ks : List (Option Expr)} {vs : List Expr} {m : M IV} {ps : MPs} {pos : Pos}
theorem je_star (he : JE X n W e m) (h : JPs X n W pos ks vs ps) (hall : ks.all (·.isSome) = true := by rfl) (hl : ks.length = vs.length := by rfl) (h0 : ks ≠ [] := by simp) (h15 : ks.length ≤ 15 := by decide) : JE X n W (.Dict (none :: ks) (e :: vs) pos) (eStar m ps) := by
  refine pe_imp (pe_frzd (pe_star he h hall hl h0 h15)) fun σ H Q q => ?_
  obtain ⟨F, ρ, cs, σi, hs, hl, hp⟩ := q
  intro p hp0
  obtain ⟨hs1, t1, f1, n1⟩ := hs.lay (o := .dK []) hp0
  refine goB hs1 t1 hl hp fun v H1 F1 ρ1 cs1 x st1 hs2 r1 hp1 => ?_
  obtain ⟨a1, a2, a3⟩ := laid_keeps upd_same (fun _ z => by cases z) f1 n1 st1
  have t2 := t1.tr st1
  cases x with
  | dct ks' xs' =>
    replace hp1 : Pst (gx X) W σ (Rel (gx X)) F ρ H ((mPrs ps n σi cs1).then fun qs cs2 => M.opt (starI (.dct ks' xs') qs) n σi cs2) Q := hp1
    obtain ⟨a, ws, fo, rfl, b1, rk⟩ := rel_dct r1
    have hap : a ≠ p := fun z => by rw [z, a2] at b1; cases b1
    refine ⟨a1, a, ws, rfl, hap, .inr ⟨fo, hs2.fz _ _ b1⟩, fun q hq0 => ?_⟩
    have hqp : q ≠ p := fun z => by rw [z, upd_same] at hq0; cases hq0
    have hq1 : H1 q = none := by rw [upd_ne hqp] at hq0; exact hq0
    have hqH : H q = none := by
      cases z : H q with
      | none => rfl
      | some u => exact absurd hq1 (t2.dm q (by rw [z]; intro y; cases y))
    have hs3 := hs2.bgset (o := .dK ws) a2 a3 (by rw [a1]; exact NoX.dK)
    have t3 := t2.bgset (o := .dK ws) hp0
    obtain ⟨hs4, t4, f4, n4⟩ := hs3.lay (o := .dK []) hq0
    refine prs_run ps ?_
    refine goB hs4 (t3.tr t4) hl hp1 fun qv H2 F2 ρ2 cs2 qi st2 hs5 r2 hp2 => ?_
    obtain ⟨c1, c2, c3⟩ := laid_keeps upd_same (fun _ z => by cases z) f4 n4 st2
    obtain ⟨d1, d2, d3⟩ := laid_keeps (p := p) (o := .dK ws) (by rw [upd_ne (fun z => hqp z.symm), upd_same]) (fun _ z => by cases z) a2 a3 st2
    obtain ⟨z, hz, hq⟩ := pst_opt hp2
    obtain ⟨kvs, hk, hz⟩ := Option.bind_eq_some_iff.mp hz
    split at hz
    · rename_i hc
      cases hz
      obtain ⟨us, rfl, ru⟩ := prsI_rel r2 hk
      have l1 : us.length = kvs.length := by have := congrArg List.length ru.1; simpa using this.symm
      have l2 : (ks'.zip xs').length = ws.length := by have := congrArg List.length rk.1; simpa using this
      have l3 : (ks'.zip xs').length ≤ ks'.length := by rw [List.length_zip]; omega
      refine ⟨d1, c1, us, rfl, by omega, lim_le (by omega), .inr ⟨p, _, upd_same, True.intro, fun od => ?_⟩⟩
      rw [upd_upd]
      have hs6 := hs5.bgset (o := .dK (mergeK [] us)) c2 c3 (by rw [c1]; exact NoX.dK)
      have dp : upd H2 q (.dK (mergeK [] us)) p = some (.dK ws) := by rw [upd_ne (fun z => hqp z.symm)]; exact d1
      have hs7 := hs6.bgfrz (o := .frz od (.dK (mergeK ws (mergeK [] us)))) d2 d3 (by rw [dp]; exact NoX.dK) (fun _ z => by cases z)
      have t5 := (((t3.tr t4).tr st2).bgset (o := .dK (mergeK [] us)) hqH).bgfrz (o := .frz od (.dK (mergeK ws (mergeK [] us)))) hp0 d2
      have fm : ∀ b u, F2 b = some u → upd F2 p (.frz od (.dK (mergeK ws (mergeK [] us)))) b = some u := fun b u h => upd_none d2 h
      refine hq _ ρ2 _ _ t5 hs7 (dct_rel ⟨od, upd_same⟩ ?_)
      have r3 : RelK (gx X) F2 ρ2 (ks'.zip xs') ws := (rk.stp t4).stp st2
      have r4 : RelK (gx X) F2 ρ2 (mergeG (ks'.zip xs') (mergeG [] kvs)) (mergeK ws (mergeK [] us)) := RelK.merge (RelK.merge ru .nil) r3
      exact ⟨r4.1, r4.2.mono fm ⟨[], by simp⟩⟩
    · cases hz
  | _ => exact hp1.elim
end
end SL

set_option Elab.async false
set_option linter.all false
set_option autoImplicit false
set_option maxRecDepth 100000
set_option maxHeartbeats 4000000
/-! SLEq: isinstance of an own class; == and != by an own __eq__. -/
namespace SL
open PySem PySem.Spec L2
section
variable {prog : Program} {w : World} {A : Around} {E : Value → Shared → Prop} {s : Shared} {K : PySem.W.Frag} {x C L f : Addr} {h₀ : Heap} {m : Str → Option Value} {ox : Obj} {od : Option Obj} {b tb : Value}
/-- the class at C has object's !=, and its own == -/
structure NeAt (K : PySem.W.Frag) (C : Addr) : Prop where
  ne : PySem.W.findIn K (.ref C) "__ne__" = some (some (.builtin "object.__ne__"))
  ob : PySem.W.subIn K (.ref C) (.type "object") = some true
theorem bind_ne (y : Value) : bindSpecial (.builtin "object.__ne__") y = pure (.builtin "object.__ne__", [y]) := F.cmp_object.ne.bind y
/-- a != b by the own __eq__ of a -/
theorem ne_own {Q : Value → Shared → Prop} (hu : A.units + 1 < cLine) (KX : K.In s.heap) (I : PySem.W.InstAt s.heap x ox C od) (hb : PySem.W.Looks (model prog w) s.heap (typeOf b) tb) (hn : PySem.W.notFirst K C tb = true) (N : NeAt K C)
    (he : PySem.W.findIn K (.ref C) "__eq__" = some (some (.ref f))) (hf : PySem.W.isFn K (.ref f) = true)
    (h : wpAny (model prog w) A.in1 (call (.ref f) [.ref x, b]) (fun v t => ∃ r, v = .bool r ∧ Q (.bool (!r)) t) E s) : wpAny (model prog w) A (richCompare .NotEq (.ref x) b) Q E s := by
  have body : wpAny (model prog w) A (call (.builtin "object.__ne__") [.ref x, b]) (fun v t => v ≠ .notImplemented ∧ Q v t) E s := by
    refine wpAny_call (codeAny_call_builtin F.cmp_object.ne.plain F.cmpEntry_ne ?_)
    have chk : ∀ {P : Unit → Shared → Prop} {E' : Value → Shared → Prop}, P () s → wpAny (model prog w) A.in1 (checkBuiltinCall "object.__ne__" ⟨[.ref x, b], []⟩) P E' s := fun {P E'} hp => by
      simp only [checkBuiltinCall, F.cmpKind_ne, F.cmpSplit_ne]
      refine wpAny_bind ?_
      unfold isInstance
      refine wpAny_bind (I.type.here ((PySem.W.looks_subIn KX N.ob).here ?_))
      have ha := F.cmpArgs_ne (.ref x) b
      cases hsig : Manifest.signature? "object.__ne__" with
      | none => exact wpAny_pure hp
      | some sig =>
        simp only [argsOk, hsig] at ha
        have h2 : Bind.checkArgs "object.__ne__" sig ⟨[.ref x, b], []⟩ = pure () := ha
        show wpAny _ _ (Bind.checkArgs "object.__ne__" sig ⟨[.ref x, b], []⟩) _ _ _
        rw [h2]
        exact wpAny_pure hp
    refine chk ?_
    unfold Builtin.«object.__ne__»
    have hu1 : A.in1.units < cLine := hu
    refine wpAny_bind (wpAny_pure ?_)
    dsimp only
    refine wpAny_bind (wpAny_cRoomFor hu1 ?_)
    refine wpAny_bind (PySem.W.ifBound_K KX I he hf (wpAny_mono h (fun v t z => ?_) fun _ _ e => e))
    obtain ⟨r, rfl, hq⟩ := z
    refine wpAny_bind (wpAny_truthy_bool ?_)
    exact wpAny_pure ⟨(fun y => nomatch y), hq⟩
  have one : wpAny (model prog w) A (tryCompare (.ref x) "__ne__" b) (fun r t => ∃ v, r = some v ∧ Q v t) E s := by
    unfold tryCompare
    refine wpAny_bind ?_
    simp only [callSpecialIfBound?, bindSpecialIfBound?]
    refine wpAny_holding (wpAny_bind (wpAny_bind (wpAny_bind (I.type.here ((PySem.W.looks_findIn KX N.ne).here ?_)))))
    refine wpAny_bind (wpAny_askSetting (wpAny_ite ?_))
    have fin : wpAny (model prog w) A (call (.builtin "object.__ne__") ([.ref x] ++ [b]) >>= fun v => pure (some v)) (fun r t => wpAny (model prog w) A (match r with
      | some .notImplemented | none => pure none
      | some v => pure (some v)) (fun r t => ∃ v, r = some v ∧ Q v t) E t) E s := wpAny_bind (wpAny_mono body (fun v t z => wpAny_pure (by
        cases v <;> first | exact absurd rfl z.1 | exact wpAny_pure ⟨_, rfl, z.2⟩)) fun _ _ e => e)
    rw [bind_ne]
    split
    · exact wpAny_bind (wpAny_pure (wpAny_pure (by exact fin)))
    · exact wpAny_tryCatch (wpAny_bind (wpAny_pure (wpAny_pure (by exact fin))))
  unfold richCompare
  simp only [oneThing_ref]
  refine wpAny_holding (wpAny_bind (wpAny_cRoomFor (Nat.lt_of_succ_lt hu) ?_))
  refine wpAny_bind (I.type.here (wpAny_bind (hb.here ?_)))
  have last : ∀ {k : Option Value → Sem Value}, (∀ v t, Q v t → wpAny (model prog w) A (k (some v)) Q E t) → wpAny (model prog w) A (tryCompare (.ref x) "__ne__" b >>= k) Q E s := fun hk => wpAny_bind (wpAny_mono one (fun r t z => by
    obtain ⟨v, rfl, hq⟩ := z
    exact hk v t hq) fun _ _ e => e)
  split
  · rename_i q
    have e : PySem.W.subIn K tb (.ref C) = some false := by
      rcases Bool.or_eq_true_iff.mp hn with z | z
      · rw [beq_iff_eq.mp z] at q; simp at q
      · exact beq_iff_eq.mp z
    refine wpAny_bind ((PySem.W.looks_subIn KX e).here ?_)
    rw [if_neg Bool.false_ne_true]
    exact last fun v t hq => wpAny_pure hq
  · refine wpAny_bind (wpAny_pure ?_)
    rw [if_neg Bool.false_ne_true]
    exact last fun v t hq => wpAny_pure hq
end
open PyProof.Rows hiding St
/-! ### the mirror -/
/-- what isinstance asks of the class that the module calls c -/
def ClsQ (K : PySem.W.Frag) (mg : Str → Option Value) (c : Str) : Prop :=
  ∃ C, KlsG K mg c C ∧ PySem.W.findIn K (.ref C) "__class__" = some (some (.builtin "object.__class__")) ∧ PySem.W.specialIn K (.builtin "object.__class__") "__get__" = some (some (.builtin "getset_descriptor.__get__")) ∧
    PySem.W.takesIn K (.builtin "object.__class__") = some true ∧ PySem.W.mroIn K C (.type "object") = some true ∧ ((PySem.W.clsIn K C).isSome && PySem.W.typeIn K (.ref C) == some (.type "type")) = true
def tyL : List String := ["NoneType", "bool", "int", "str", "tuple", "list", "dict"]
theorem tyI_mem {cs : List Cell} {x : IV} {T : String} (h : tyI cs x = some T) : T ∈ tyL := by
  unfold tyI at h
  split at h <;> first | (cases h; decide) | (split at h <;> first | (cases h; decide) | cases h) | cases h
theorem sub_ty {K : PySem.W.Frag} {C : Addr} {T : String} (h : T ∈ tyL) : PySem.W.subIn K (.type T) (.ref C) = some false := by
  unfold tyL at h
  simp only [List.mem_cons, List.not_mem_nil, or_false] at h
  rcases h with rfl | rfl | rfl | rfl | rfl | rfl | rfl
  · show (PySem.fastBuiltinMro "NoneType").map _ = _
    rw [show PySem.fastBuiltinMro "NoneType" = some [.type "NoneType", .type "object"] from by decide +kernel]; rfl
  · show (PySem.fastBuiltinMro "bool").map _ = _
    rw [show PySem.fastBuiltinMro "bool" = some [.type "bool", .type "int", .type "object"] from by decide +kernel]; rfl
  · show (PySem.fastBuiltinMro "int").map _ = _
    rw [show PySem.fastBuiltinMro "int" = some [.type "int", .type "object"] from by decide +kernel]; rfl
  · show (PySem.fastBuiltinMro "str").map _ = _
    rw [show PySem.fastBuiltinMro "str" = some [.type "str", .type "object"] from by decide +kernel]; rfl
  · show (PySem.fastBuiltinMro "tuple").map _ = _
    rw [show PySem.fastBuiltinMro "tuple" = some [.type "tuple", .type "object"] from by decide +kernel]; rfl
  · show (PySem.fastBuiltinMro "list").map _ = _
    rw [show PySem.fastBuiltinMro "list" = some [.type "list", .type "object"] from by decide +kernel]; rfl
  · show (PySem.fastBuiltinMro "dict").map _ = _
    rw [show PySem.fastBuiltinMro "dict" = some [.type "dict", .type "object"] from by decide +kernel]; rfl
/-- isinstance(x, c) -/
def isC (c : Str) (x : IV) (cs : List Cell) : Option Bool := match insI x cs with
  | some (c2, _, _) => if c2 = c then some true else none
  | none => (tyI cs x).map fun _ => false
def fIsC (c : Str) : List Cell → List IV → Option IV
  | cs, [x, .glb c2] => if c2 = c then (isC c x cs).map .bl else none
  | _, _ => none
theorem isC_rel {g : Gx} {F : Hp} {ρ : List Addr} {H : Hp} {cs : List Cell} {x : IV} {v : V} {c : Str} {r : Bool} (D : ClsQ g.K g.mg c) (hs : Sim g F ρ cs H) (rx : Rel g F ρ x v) (h : isC c x cs = some r) :
    ∃ C t, g.mg c = some (.ref C) ∧ TyX g.K H v t ∧ PySem.W.kitOne g.K t (.ref C) = some r ∧ PySem.W.notFirst g.K C t = true := by
  obtain ⟨C, T, hA, hN, hT, hM, hC⟩ := D
  unfold isC at h
  split at h
  · rename_i c2 fs xs q
    split at h
    · rename_i e
      cases h
      subst e
      obtain ⟨a, C2, dx, vs, rfl, hm, h3, _, _⟩ := ins_rel hs rx q
      have e := T.gC.symm.trans hm
      cases e
      exact ⟨C, .ref C, T.gC, .base (.ins h3 T.cls hA hN hT hM), by unfold PySem.W.kitOne; rw [if_pos (by simp)], by unfold PySem.W.notFirst; simp⟩
    · cases h
  · obtain ⟨t, ht, rfl⟩ := Option.map_eq_some_iff.mp h
    have hsub := sub_ty (K := g.K) (C := C) (tyI_mem ht)
    refine ⟨C, .type t, T.gC, tyI_rel hs rx ht, ?_, by unfold PySem.W.notFirst; rw [hsub]; simp⟩
    unfold PySem.W.kitOne
    rw [if_neg (by simp)]
    unfold PySem.W.kitCls
    dsimp only
    rw [if_pos hC, hsub]
section
variable {X : Cx} {c : Str}
theorem cj_isC (D : ClsQ X.K X.mg c) : CallR X (.builtin "isinstance") (rCJ (gx X) (fIsC c)) := by
  intro pins s σ H vs us Q I r h
  obtain ⟨F, ρ, cs, xs, z, hs, hx, hf, q⟩ := h
  unfold fIsC at hf
  split at hf
  · rename_i x c2
    split at hf
    · rename_i e
      subst e
      obtain ⟨b, hb, rfl⟩ := Option.map_eq_some_iff.mp hf
      obtain ⟨v, w, rfl, h1, h2⟩ := relL2 hx
      obtain ⟨C, t, hm, h3, h4, _⟩ := isC_rel (g := gx X) D hs h1 hb
      simp only [Rel] at h2
      obtain ⟨a, hm2, rfl⟩ := h2
      have e := hm.symm.trans hm2
      cases e
      exact call_isi pins s σ H _ us Q I r ⟨v, _, _, _, b, rfl, .own _, h3, h4, q F ρ H _ StpU.refl hs (by simp only [Rel])⟩
    · cases hf
  · cases hf
/-! ### == by an own __eq__ -/
/-- what the own == of c, mirrored by fm, says of two values -/
def eqR (c : Str) (fm : FM) (n : Nat) (x y : IV) (cs : List Cell) : Option (Bool × List Cell) := if isC c x cs = some true ∧ (isC c y cs).isSome = true then
  match fm n [x, y] cs with
  | .ok (.bl r) cs2 => some (r, cs2)
  | _ => none else none
def eqC (c : Str) (fm : FM) (neg : Bool) (ma mb : M IV) : M IV := ma.bind fun x => mb.bind fun y => fun n _ cs => match eqR c fm n x y cs with
  | some (r, cs2) => .ok (.bl (if neg then !r else r)) cs2
  | none => .stuck
def rEqC (g : Gx) (n : Nat) (c : Str) (fm : FM) (neg : Bool) : R2 := fun x y H Q => ∃ F ρ cs xi yi r cs2, Sim g F ρ cs H ∧ Rel g F ρ xi x ∧ Rel g F ρ yi y ∧ eqR c fm n xi yi cs = some (r, cs2) ∧
  ∀ F' ρ' H' v, Stp F ρ H F' ρ' H' → Sim g F' ρ' cs2 H' → Rel g F' ρ' (.bl (if neg then !r else r)) v → Q v H'
variable {n k : Nat} {W : WX} {fm : FM} {ps : List Str} {a b : Expr} {ma mb : M IV} {pos : Pos}
theorem op_eqC {neg : Bool} {op : CmpOp} (hop : op = if neg then .NotEq else .Eq) (Q0 : ClsQ X.K X.mg c) (D : MethG X.prog X.w X.K X.mg X.base n k c "__eq__" ps [] fm) (N : ∀ C, X.mg c = some (.ref C) → NeAt X.K C) (hr : Room (k + 1) X.A) (hgd : X.A.guards = some []) (hps : ps.length = 2) :
    OpR X (compareOp op) (rEqC (gx X) n c fm neg) := by
  intro pins s σ H x y v u Q I rx ry h
  obtain ⟨F, ρ, cs, xi, yi, r, cs2, hs, hx, hy, hq, q⟩ := h
  unfold eqR at hq
  split at hq
  · rename_i hc
    obtain ⟨h1, h2⟩ := hc
    obtain ⟨r2, h2⟩ := Option.isSome_iff_exists.mp h2
    split at hq
    · rename_i r' cs2' e
      cases hq
      obtain ⟨C, f, fd, ds, dvs, T, hm, hb, hd, rd, G⟩ := D
      obtain ⟨C2, t2, hm2, ty2, _, nf2⟩ := isC_rel (g := gx X) Q0 hs hy h2
      have ec := T.gC.symm.trans hm2
      cases ec
      have hins : ∃ a dx fs, x = .ref a ∧ H a = some (.ins C dx fs) := by
        unfold isC at h1
        split at h1
        · rename_i c2 fs xs q1
          split at h1
          · rename_i e1
            subst e1
            obtain ⟨a, C', dx, vs, rfl, hm', h3, _, _⟩ := ins_rel hs hx q1
            have e2 := T.gC.symm.trans hm'
            cases e2
            exact ⟨a, dx, _, rfl, h3⟩
          · cases h1
        · obtain ⟨_, _, z⟩ := Option.map_eq_some_iff.mp h1
          cases z
      obtain ⟨a, dx, fs, rfl, ha⟩ := hins
      obtain rfl : v = Value.ref a := rx
      obtain ⟨mA, J, _⟩ := ins_get I.hok ha
      obtain ⟨od, J, _⟩ := J.look
      obtain ⟨P, Z, p, _⟩ := kit_of I ry ty2
      have hb2 := Z.ty (model X.prog X.w) s.heap I.kIn p
      have r2 : Vals [V.ref a, y] [Value.ref a, u] := .cons rfl (.cons ry .nil)
      have rx2 : RelL (gx X) F ρ [xi, yi] [V.ref a, y] := .cons hx (.cons hy .nil)
      have ez := rd F ρ
      simp only [RelL] at ez
      subst ez
      cases hd
      have run : ∀ A : Around, Room k A → A.guards = some [] → Env0 X.prog X.w X.K X.mg X.base A X.stack s H → wpAny (model X.prog X.w) A (call (.ref f) [.ref a, u]) (fun v t => v = .bool r ∧ EP X pins σ Q (.bool (if neg then !r else r)) t) X.xe s := fun A hr hg e0 => by
        refine wpAny_call (codeAny_mono (G.run A X.stack s H ⟨[.ref a, u], []⟩ [.ref a, u] [.ref a, y] (fun v H' => v = .bl r ∧ Q (.bl (if neg then !r else r)) H') (fun _ _ _ => False) hr hg e0 (by
          have z := hb s [.ref a, u] I.kIn (by rw [hps]; rfl)
          simpa using z) r2 (by rw [hps]; rfl) ⟨F, ρ, cs, [xi, yi], hs, rx2, ?_⟩) fun fl t hq => ?_)
        · rw [e]
          intro F' ρ' H' v st sm rv
          exact ⟨relBl rv, q F' ρ' H' _ st sm (by simp only [Rel])⟩
        · cases fl with
          | error e => obtain ⟨_, _, _, _, _, _, _, _, _, _, _, _, z⟩ := hq; exact z.elim
          | ok fl =>
            cases fl with
            | ret w =>
              obtain ⟨z, H', I', rz, ez, qz⟩ := I.after hq
              subst ez
              cases rz
              exact ⟨rfl, .bl (if neg then !r else r), H', I', rfl, qz⟩
            | next => exact False.elim hq
            | brk => exact False.elim hq
            | cont => exact False.elim hq
      obtain ⟨mF, hF⟩ := I.fr
      subst hop
      cases neg with
      | false =>
        refine PySem.W.cmp_K (op := .Eq) hr.units0 hF I.ok.mod.kin J hb2 nf2 hm.at_ hm.fn (wpAny_mono (run X.A (hr.mono (Nat.le_succ k)) hgd I.env0) (fun v t z => ?_) fun _ _ e => e)
        obtain ⟨rfl, z⟩ := z
        exact z
      | true =>
        refine ne_own (by have := hr.un; omega) I.kIn J hb2 nf2 (N C T.gC) hm.at_ hm.fn (wpAny_mono (run X.A.in1 hr.in1 hgd I.env0.in1) (fun v t z => ?_) fun _ _ e => e)
        obtain ⟨rfl, z⟩ := z
        exact ⟨r, rfl, z⟩
    · cases hq
  · cases hq
theorem eqC_run {g : Gx} {neg : Bool} {σ : St} {H : Hp} {Q : VK} (h : tG g n W (Rel g) (eqC c fm neg ma mb) σ H Q) : tG g n W (Rel g) ma σ H fun x H1 => tG g n W (Rel g) mb σ H1 fun y H2 => rEqC g n c fm neg x y H2 Q := by
  obtain ⟨F, ρ, cs, σi, hs, hl, hp⟩ := h
  refine go hs hl hp fun x H1 F1 ρ1 cs1 xi st1 hs1 hl1 rx hp1 => ?_
  refine go hs1 hl1 hp1 fun y H2 F2 ρ2 cs2 yi st2 hs2 hl2 ry hp2 => ?_
  cases e : eqR c fm n xi yi cs2 with
  | none =>
    replace hp2 : Pst g W σ (Rel g) F2 ρ2 H2 (match eqR c fm n xi yi cs2 with
      | some (r, cs3) => .ok (.bl (if neg then !r else r)) cs3
      | none => .stuck) Q := hp2
    rw [e] at hp2
    exact hp2.elim
  | some z =>
    obtain ⟨r, cs3⟩ := z
    replace hp2 : Pst g W σ (Rel g) F2 ρ2 H2 (match eqR c fm n xi yi cs2 with
      | some (r, cs3) => .ok (.bl (if neg then !r else r)) cs3
      | none => .stuck) Q := hp2
    rw [e] at hp2
    exact ⟨F2, ρ2, cs2, xi, yi, r, cs3, hs2, rx.stp st2, ry, e, hp2⟩
theorem je_eqC (Q0 : ClsQ X.K X.mg c) (D : MethG X.prog X.w X.K X.mg X.base n k c "__eq__" ps [] fm) (N : ∀ C, X.mg c = some (.ref C) → NeAt X.K C) (hr : Room (k + 1) X.A) (hgd : X.A.guards = some []) (ha : JE X n W a ma) (hb : JE X n W b mb) (hps : ps.length = 2 := by rfl) (hm : behindInMarks .Eq b = false := by rfl) :
    JE X n W (.Compare a [.Eq] [b] pos) (eqC c fm false ma mb) := pe_imp (pe_cmpR (op_eqC (neg := false) rfl Q0 D N hr hgd hps) ha hb hm) fun _ _ _ h => eqC_run h
theorem je_neC (Q0 : ClsQ X.K X.mg c) (D : MethG X.prog X.w X.K X.mg X.base n k c "__eq__" ps [] fm) (N : ∀ C, X.mg c = some (.ref C) → NeAt X.K C) (hr : Room (k + 1) X.A) (hgd : X.A.guards = some []) (ha : JE X n W a ma) (hb : JE X n W b mb) (hps : ps.length = 2 := by rfl) (hm : behindInMarks .NotEq b = false := by rfl) :
    JE X n W (.Compare a [.NotEq] [b] pos) (eqC c fm true ma mb) := pe_imp (pe_cmpR (op_eqC (neg := true) rfl Q0 D N hr hgd hps) ha hb hm) fun _ _ _ h => eqC_run h
theorem jt_eqC (Q0 : ClsQ X.K X.mg c) (D : MethG X.prog X.w X.K X.mg X.base n k c "__eq__" ps [] fm) (N : ∀ C, X.mg c = some (.ref C) → NeAt X.K C) (hr : Room (k + 1) X.A) (hgd : X.A.guards = some []) (ha : JE X n W a ma) (hb : JE X n W b mb) (hps : ps.length = 2 := by rfl) (hm : behindInMarks .Eq b = false := by rfl) :
    JT X n W (.Compare a [.Eq] [b] pos) (mB (eqC c fm false ma mb)) := pt_imp (pt_cmpR (op_eqC (neg := false) rfl Q0 D N hr hgd hps) ha hb hm) fun _ _ _ h => eqC_run (mB_run h)
theorem jt_neC (Q0 : ClsQ X.K X.mg c) (D : MethG X.prog X.w X.K X.mg X.base n k c "__eq__" ps [] fm) (N : ∀ C, X.mg c = some (.ref C) → NeAt X.K C) (hr : Room (k + 1) X.A) (hgd : X.A.guards = some []) (ha : JE X n W a ma) (hb : JE X n W b mb) (hps : ps.length = 2 := by rfl) (hm : behindInMarks .NotEq b = false := by rfl) :
    JT X n W (.Compare a [.NotEq] [b] pos) (mB (eqC c fm true ma mb)) := pt_imp (pt_cmpR (op_eqC (neg := true) rfl Q0 D N hr hgd hps) ha hb hm) fun _ _ _ h => eqC_run (mB_run h)
@[simp] theorem ev_eqC {neg : Bool} {σ : List SV} {cs : List Cell} : eqC c fm neg ma mb n σ cs = (ma n σ cs).th (k := fun x cs1 => (mb n σ cs1).th (k := fun y cs2 => match eqR c fm n x y cs2 with
  | some (r, cs3) => .ok (.bl (if neg then !r else r)) cs3
  | none => .stuck)) := id rfl
end
end SL

set_option Elab.async false
set_option linter.all false
set_option autoImplicit false
set_option maxRecDepth 100000
set_option maxHeartbeats 4000000
/-! SLDEq: == of two dicts of whole numbers that stand still. -/
namespace SL
open PySem PySem.Spec L2
open PyProof.Rows hiding St
def dEqB : List (Key × IV) → List (Key × IV) → Option Bool
  | [], _ => some true
  | (k, .int i) :: r, b => match valG b k with
    | none => some false
    | some (.int j) => (dEqB r b).map fun z => (i == j) && z
    | _ => none
  | _ :: _, _ => none
def dEq (x y : IV) : Option IV := match x, y with
  | .dct ks xs, .dct ls ys => if ks.length = ls.length then (dEqB (ks.zip xs) (ls.zip ys)).map .bl else some (.bl false)
  | _, _ => none
theorem kv_val {bv : List (Key × V)} {vb : List (Key × Value)} (rb : KV bv vb) (k : Key) {v : V} (h : valV bv k = some v) : ∃ u, valueAt vb k = some u ∧ RelV v u := by
  have z := rb.val k
  rw [h] at z
  exact z.some_of
theorem kv_no {bv : List (Key × V)} {vb : List (Key × Value)} (rb : KV bv vb) (k : Key) (h : valV bv k = none) : valueAt vb k = none := by
  have z := rb.val k
  rw [h] at z
  cases q : valueAt vb k with
  | none => rfl
  | some u => rw [q] at z; exact z.elim
theorem hits_of {g : Gx} {F : Hp} {ρ : List Addr} {A : Around} {s : Shared} {bk : List (Key × IV)} {bv : List (Key × V)} {vb : List (Key × Value)} (rk : RelK g F ρ bk bv) (rb : KV bv vb) {ak : List (Key × IV)} {av : List (Key × V)} (ra : RelK g F ρ ak av) :
    ∀ {va : List (Key × Value)} {r : Bool}, KV av va → dEqB ak bk = some r → PySem.W.KeqHits A s vb va r := by
  refine RelK.ind (P := fun ak av => ∀ {va : List (Key × Value)} {r : Bool}, KV av va → dEqB ak bk = some r → PySem.W.KeqHits A s vb va r) (fun {va r} q h => ?_) (fun k x v a b r1 _ ih {va r} q h => ?_) ra
  · cases q
    cases h
    exact .nil
  · cases q with
    | @cons p c ps cs hh tt =>
      obtain ⟨e1, e2⟩ := hh
      obtain ⟨k2, u⟩ := c
      replace e1 : k = k2 := e1
      replace e2 : RelV v u := e2
      subst e1
      cases x with
      | int i =>
        have ev := relInt r1
        subst ev
        unfold dEqB at h
        rcases rk.val (k := k) with ⟨x2, v2, h1, h2, h3⟩ | ⟨h1, h2⟩
        · rw [h1] at h
          cases x2 with
          | int j =>
            have ev := relInt h3
            subst ev
            obtain ⟨z, hz, rfl⟩ := Option.map_eq_some_iff.mp h
            obtain ⟨y, hy, ry⟩ := kv_val rb k h2
            have := eqAt_V (A := A) (s := s) e2 ry rfl rfl
            exact .hit hy this (ih tt hz)
          | _ => cases h
        · rw [h1] at h
          cases h
          exact .miss (kv_no rb k h2)
      | _ => cases h
theorem oj_deq {X : Cx} (hu : X.A.units + 64 < cLine) : OpR X (compareOp .Eq) (rJ (gx X) dEq) := by
  intro pins s σ H x y v u Q I rx ry h
  obtain ⟨F, ρ, cs, xi, yi, z, hs, hx, hy, hf, q⟩ := h
  unfold dEq at hf
  split at hf
  · rename_i ks xs ls ys
    obtain ⟨a, ws, fo, rfl, b1, rk1⟩ := rel_dct hx
    obtain ⟨b, us, fo2, rfl, b2, rk2⟩ := rel_dct hy
    obtain rfl : v = Value.ref a := rx
    obtain rfl : u = Value.ref b := ry
    simp only [Rel] at hx hy
    obtain ⟨a', vs1, ea, la, ⟨o1, h1⟩, _⟩ := hx
    obtain ⟨b', vs2, eb, lb, ⟨o2, h2⟩, _⟩ := hy
    cases ea; cases eb
    rw [b1] at h1; cases h1
    rw [b2] at h2; cases h2
    obtain ⟨_, ya, va, ra, da⟩ := dk_rd I.hok (.inr ⟨fo, hs.fz _ _ b1⟩)
    obtain ⟨_, yb, vb, rb, db⟩ := dk_rd I.hok (.inr ⟨fo2, hs.fz _ _ b2⟩)
    have l1 : va.length = ks.length := by rw [← ra.length, List.length_zip, ← la, Nat.min_self]
    have l2 : vb.length = ls.length := by rw [← rb.length, List.length_zip, ← lb, Nat.min_self]
    split at hf
    · rename_i hl
      obtain ⟨r, hr, rfl⟩ := Option.map_eq_some_iff.mp hf
      exact PySem.W.keq_eq (knd := mixKind X.prog X.w) (r := r) ya yb da db (Nat.lt_of_le_of_lt (Nat.le_add_right _ _) hu) (fun _ => hits_of rk2 rb rk1 ra hr) (fin_bl (k := r) I (q F ρ H (.bl r) StpU.refl hs (by simp only [Rel])) (by rw [l1, l2, hl]; simp))
    · rename_i hl
      cases hf
      refine PySem.W.keq_eq (knd := mixKind X.prog X.w) (r := true) ya yb da db (Nat.lt_of_le_of_lt (Nat.le_add_right _ _) hu) (fun e => absurd (by rw [← l1, ← l2]; exact e) hl) (fin_bl (k := false) I (q F ρ H (.bl false) StpU.refl hs (by simp only [Rel])) ?_)
      rw [l1, l2, Bool.and_true]
      exact (beq_eq_false_iff_ne.mpr hl).symm
  · cases hf
end SL

set_option Elab.async false
set_option linter.all false
set_option autoImplicit false
set_option maxRecDepth 100000
set_option maxHeartbeats 4000000
/-! SLKw: an own class called with keywords. -/
namespace SL
open PySem PySem.Spec L2
open PyProof.Rows hiding St
def JK (X : Cx) (n : Nat) (W : WX) (kws : List Keyword) (m : M (List IV)) : Prop := PK X kws (tG (gx X) n W (RelL (gx X)) m)
theorem pk_imp {X : Cx} {kws : List Keyword} {t t' : TA} (h : PK X kws t) (i : ∀ σ H Q, t' σ H Q → t σ H Q) : PK X kws t' := ⟨fun p pins s σ H Q I q => h.run p pins s σ H Q I (i σ H Q q)⟩
/-- the class c and its __init__, called with nA values and the keywords ks; dxs: what is left of its defaults, ahead of the keywords -/
def MkGK (P : Program) (w : World) (K : PySem.W.Frag) (mg : Str → Option Value) (base : Heap) (n k : Nat) (c : Str) (ps ks : List Str) (nA : Nat) (dxs : List IV) (fm : FM) : Prop :=
  ∃ C f fd ds dvs, KlsG K mg c C ∧ Mk K C f ∧ (∀ (s : Shared) (us ws : List Value), K.In s.heap → us.length = nA + 1 → ws.length = ks.length → BindsTo s fd ⟨us, ks.zip ws⟩ (ps.zip (us ++ ds ++ ws))) ∧ Vals dvs ds ∧ (∀ F ρ, RelL (gK K mg) F ρ dxs dvs) ∧ FnG P w K mg base n k f fd ps fm
def eMkK (c : Str) (fm : FM) (np nA nK : Nat) (dxs : List IV) (a ak : M (List IV)) : M IV := a.bind fun xs => ak.bind fun zs => fun n _ cs => if xs.length = nA ∧ zs.length = nK ∧ (xs ++ dxs ++ zs).length + 1 = np then mkI c fm (xs ++ dxs ++ zs) n cs else .stuck
section
variable {X : Cx} {n k : Nat} {W : WX} {c x : Str} {ps ks : List Str} {dxs : List IV} {fm : FM} {p pos kpos : Pos} {a e : Expr} {es : List Expr} {kws : List Keyword} {m : M IV} {mr ma mk : M (List IV)} {nm : Option Str}
theorem jk_nil : JK X n W [] aNil := by
  refine pk_imp pk_nil fun σ H Q q => ?_
  obtain ⟨F, ρ, cs, σi, hs, hl, hp⟩ := q
  exact hp F ρ H [] StpU.refl hs RelL.nil
theorem jk_cons (h : JE X n W a m) (hr : JK X n W kws mr) : JK X n W (⟨nm, a, kpos⟩ :: kws) (aCons m mr) := by
  refine pk_imp (pk_cons h hr) fun σ H Q q => ?_
  obtain ⟨F, ρ, cs, σi, hs, hl, hp⟩ := q
  refine go hs hl hp fun v H1 F1 ρ1 cs1 y st1 hs1 hl1 r1 hp1 => ?_
  refine go hs1 hl1 hp1 fun vs H2 F2 ρ2 cs2 ys st2 hs2 hl2 r2 hp2 => ?_
  exact hp2 F2 ρ2 H2 _ StpU.refl hs2 (.cons (r1.stp st2) r2)
theorem eMkK_run {g : Gx} {np nA nK : Nat} {σ : St} {H : Hp} {Q : VK} (h : tG g n W (Rel g) (eMkK c fm np nA nK dxs ma mk) σ H Q) :
    tG g n W (RelL g) ma σ H fun vs H1 => tG g n W (RelL g) mk σ H1 fun zs H2 => ∃ F ρ cs xs ys, Sim g F ρ cs H2 ∧ RelL g F ρ xs vs ∧ RelL g F ρ ys zs ∧ xs.length = nA ∧ ys.length = nK ∧ (xs ++ dxs ++ ys).length + 1 = np ∧ Pst g W σ (Rel g) F ρ H2 (mkI c fm (xs ++ dxs ++ ys) n cs) Q := by
  obtain ⟨F, ρ, cs, σi, hs, hl, hp⟩ := h
  refine go hs hl hp fun vs H1 F1 ρ1 cs1 xs st1 hs1 hl1 r1 hp1 => ?_
  refine go hs1 hl1 hp1 fun zs H2 F2 ρ2 cs2 ys st2 hs2 hl2 r2 hp2 => ?_
  replace hp2 : Pst g W σ (Rel g) F2 ρ2 H2 (if xs.length = nA ∧ ys.length = nK ∧ (xs ++ dxs ++ ys).length + 1 = np then mkI c fm (xs ++ dxs ++ ys) n cs2 else .stuck) Q := hp2
  split at hp2
  · rename_i hc
    exact ⟨F2, ρ2, cs2, xs, ys, hs2, r1.stp st2, r2, hc.1, hc.2.1, hc.2.2, hp2⟩
  · exact hp2.elim
theorem kw_fin {C f : Addr} {fd : FuncData} {ds : List Value} {dvs : List V} {nA : Nat} (T : KlsG X.K X.mg c C) (MM : Mk X.K C f) (hb : ∀ (s : Shared) (us ws : List Value), X.K.In s.heap → us.length = nA + 1 → ws.length = ks.length → BindsTo s fd ⟨us, ks.zip ws⟩ (ps.zip (us ++ ds ++ ws))) (hd : Vals dvs ds)
    (rd : ∀ F ρ, RelL (gx X) F ρ dxs dvs) (G : FnG X.prog X.w X.K X.mg X.base n k f fd ps fm) (hr : Room (k + 1) X.A) (hgd : X.A.guards = some []) (tk : Takes X W) {pins : List (Addr × Obj)} {σ : St} {H : Hp} {s : Shared} {Q : VK} {us ws : List Value} {vs zs : List V}
    (I : Inv X pins σ H s) (r : Vals vs us) (rz : Vals zs ws) (h : ∃ F ρ cs xs ys, Sim (gx X) F ρ cs H ∧ RelL (gx X) F ρ xs vs ∧ RelL (gx X) F ρ ys zs ∧ xs.length = nA ∧ ys.length = ks.length ∧ (xs ++ dxs ++ ys).length + 1 = ps.length ∧ Pst (gx X) W σ (Rel (gx X)) F ρ H (mkI c fm (xs ++ dxs ++ ys) n cs) Q) :
    wpAny (model X.prog X.w) X.A (call (.ref C) us (ks.zip ws)) (EP X pins σ Q) X.xe s := by
  obtain ⟨F, ρ, cs, xs, ys, hs, rx, ry, l1, l2, l3, hp⟩ := h
  have rx2 : RelL (gx X) F ρ (xs ++ dxs ++ ys) (vs ++ dvs ++ zs) := (rx.append (rd F ρ)).append ry
  have e1 : us.length = nA := by rw [← r.length, ← rx.len]; exact l1
  have e2 : ws.length = ks.length := by rw [← rz.length, ← ry.len]; exact l2
  exact mk_run (full := us ++ ds ++ ws) T MM G hr hgd tk I (fun s u KX => hb s (u :: us) ws KX (by rw [List.length_cons, e1]) e2) ((r.append hd).append rz) (by rw [← rx2.len]; exact l3) ⟨F, ρ, cs, _, hs, rx2, hp⟩
theorem je_makeK {np nA nK : Nat} (D : MkGK X.prog X.w X.K X.mg X.base n k x ps ks nA dxs fm) (hr : Room (k + 1) X.A) (hgd : X.A.guards = some []) (tk : Takes X W) (ha : JA X n W (e :: es) ma) (hk : JK X n W kws mk) (hg : Gl X x := by rfl)
    (hall : (backToKw pos (keywordEach kws X.env)).all (·.1.isSome) = true := by rfl) (hks : (backToKw pos (keywordEach kws X.env)).filterMap (·.1) = ks := by rfl) (hdb : (x == ("__debug__" : Str)) = false := by decide)
    (he : starEach (e :: es) X.env = (false, eval e X.env) :: starEach es X.env := by rfl) (hpl : ((backTo pos (starEach (e :: es) X.env)).any (·.1) || (backToKw pos (keywordEach kws X.env)).any (·.1.isNone)) = false := by rfl) (hnp : ps.length = np := by rfl) (hnk : ks.length = nK := by rfl) :
    JE X n W (.Call (.Name x p) (e :: es) kws pos) (eMkK x fm np nA nK dxs ma mk) := by
  subst hnp
  subst hnk
  obtain ⟨C, f, fd, ds, dvs, T, MM, hb, hd, rd, G⟩ := D
  refine ⟨fun pins s σ H Q I h => ?_⟩
  refine wpAny_Call_Name_kw (ld_glob I hg T.gC ?_ hdb)
  refine PySem.W.callWith_KW (h₀ := X.base) I.ok.mod.kin MM.kp hall (thn (ha.run pos pins s σ H _ I (eMkK_run h)) fun us s1 ⟨vs, H1, I1, r, q⟩ => ?_) hpl he
  refine thn (hk.run pos pins s1 σ H1 _ I1 q) fun ws s2 ⟨zs, H2, I2, rz, q2⟩ => ⟨I2.kIn, ?_⟩
  rw [hks]
  exact kw_fin T MM hb hd rd G hr hgd tk I2 r rz q2
theorem je_makeK0 {np nK : Nat} (D : MkGK X.prog X.w X.K X.mg X.base n k x ps ks 0 dxs fm) (hr : Room (k + 1) X.A) (hgd : X.A.guards = some []) (tk : Takes X W) (hk : JK X n W kws mk) (hg : Gl X x := by rfl)
    (hall : (backToKw pos (keywordEach kws X.env)).all (·.1.isSome) = true := by rfl) (hks : (backToKw pos (keywordEach kws X.env)).filterMap (·.1) = ks := by rfl) (hdb : (x == ("__debug__" : Str)) = false := by decide)
    (hpl : ((backTo pos (starEach [] X.env)).any (·.1) || (backToKw pos (keywordEach kws X.env)).any (·.1.isNone)) = false := by rfl) (hnp : ps.length = np := by rfl) (hnk : ks.length = nK := by rfl) :
    JE X n W (.Call (.Name x p) [] kws pos) (eMkK x fm np 0 nK dxs aNil mk) := by
  subst hnp
  subst hnk
  obtain ⟨C, f, fd, ds, dvs, T, MM, hb, hd, rd, G⟩ := D
  refine ⟨fun pins s σ H Q I h => ?_⟩
  refine wpAny_Call_Name_kw (ld_glob I hg T.gC ?_ hdb)
  obtain ⟨F, ρ, cs, σi, hs, hl, hp⟩ := eMkK_run h
  have h1 := hp F ρ H [] StpU.refl hs RelL.nil
  refine PySem.W.callWith_KW0 (h₀ := X.base) I.ok.mod.kin MM.kp hall ?_ hpl
  refine thn (hk.run pos pins s σ H _ I h1) fun ws s2 ⟨zs, H2, I2, rz, q2⟩ => ⟨I2.kIn, ?_⟩
  rw [hks]
  exact kw_fin (us := []) (vs := []) T MM hb hd rd G hr hgd tk I2 .nil rz q2
@[simp] theorem ev_eMkK {np nA nK : Nat} {σ : List SV} {cs : List Cell} : eMkK c fm np nA nK dxs ma mk n σ cs = (ma n σ cs).th (k := fun xs cs1 => (mk n σ cs1).th (k := fun zs cs2 => if xs.length = nA ∧ zs.length = nK ∧ (xs ++ dxs ++ zs).length + 1 = np then mkI c fm (xs ++ dxs ++ zs) n cs2 else .stuck)) := id rfl
end
end SL

set_option Elab.async false
set_option linter.all false
set_option autoImplicit false
set_option maxRecDepth 100000
set_option maxHeartbeats 4000000
/-! SLLock: an expression that reads a live dict: the dict is locked while it runs. -/
namespace SL
open PySem PySem.Spec L2
open PyProof.Rows hiding St
mutual
/-- no dict in it -/
def noK : IV → Bool
  | .dct _ _ => false
  | .tup xs => noKL xs
  | .lst xs => noKL xs
  | .rol xs => noKL xs
  | .obj _ _ xs => noKL xs
  | _ => true
def noKL : List IV → Bool
  | [] => true
  | x :: xs => noK x && noKL xs
end
def noKC : Cell → Bool
  | .lst xs => noKL xs
  | .dct _ xs => noKL xs
  | .ins _ _ xs => noKL xs
  | .dead => true
def offF (F : Hp) (a : Addr) : Hp := fun b => if b = a then none else F b
section
variable {g : Gx} {F F1 F2 : Hp} {ρ ρ2 : List Addr} {cs cs2 : List Cell} {H H2 : Hp} {a : Addr} {od : Obj} {l : List (Key × V)}
theorem off_ne {b : Addr} (h : b ≠ a) : offF F a b = F b := if_neg h
theorem off_at : offF F a a = none := if_pos rfl
theorem off_of {b : Addr} {u : HO} (ha : F a = some (.frz od (.dK l))) (h : F b = some u) (hu : u ≠ .frz od (.dK l)) : offF F a b = some u := by
  rw [off_ne (fun z => hu (by rw [z, ha] at h; exact (Option.some.inj h).symm))]
  exact h
theorem rd_off {b : Addr} {u : HO} (ha : F a = some (.frz od (.dK l))) (h : Rd F b u) (hu : u ≠ .dK l) (hu2 : ∀ o v, u ≠ .frz o v) : Rd (offF F a) b u := by
  rcases h with h | ⟨o, h⟩
  · exact .inl (off_of ha h (hu2 _ _))
  · exact .inr ⟨o, off_of ha h (fun z => hu (HO.frz.inj z).2)⟩
mutual
theorem rel_off (ha : F a = some (.frz od (.dK l))) : ∀ {x : IV} {v : V}, noK x = true → Rel g F ρ x v → Rel g (offF F a) ρ x v
  | .non, _, _, h => h
  | .bl _, _, _, h => h
  | .int _, _, _, h => h
  | .str _, _, _, h => h
  | .ty _, _, _, h => h
  | .glb _, _, _, h => h
  | .tup xs, v, k, h => by
    simp only [noK] at k
    simp only [Rel] at h ⊢
    obtain ⟨b, vs, e, h1, h2⟩ := h
    exact ⟨b, vs, e, h1.elim (fun z => .inl (rd_off ha z (fun y => by cases y) (fun _ _ y => by cases y))) .inr, relL_off ha k h2⟩
  | .lst xs, v, k, h => by
    simp only [noK] at k
    simp only [Rel] at h ⊢
    obtain ⟨b, vs, e, h1, h2⟩ := h
    exact ⟨b, vs, e, off_of ha h1 (fun y => by cases y), relL_off ha k h2⟩
  | .rol xs, v, k, h => by
    simp only [noK] at k
    simp only [Rel] at h ⊢
    obtain ⟨b, vs, e, h1, h2⟩ := h
    exact ⟨b, vs, e, h1.elim (fun z => .inl (rd_off ha z (fun y => by cases y) (fun _ _ y => by cases y))) .inr, relL_off ha k h2⟩
  | .dct _ _, _, k, _ => by simp only [noK] at k; cases k
  | .cell _, _, _, h => by simp only [Rel] at h ⊢; exact h
  | .obj c fs xs, v, k, h => by
    simp only [noK] at k
    simp only [Rel] at h ⊢
    obtain ⟨b, C, dx, vs, e, h1, h2, h3, h4⟩ := h
    exact ⟨b, C, dx, vs, e, h1, off_of ha h2 (fun y => by cases y), h3, relL_off ha k h4⟩
theorem relL_off (ha : F a = some (.frz od (.dK l))) : ∀ {xs : List IV} {vs : List V}, noKL xs = true → RelL g F ρ xs vs → RelL g (offF F a) ρ xs vs
  | [], _, _, h => by simp only [RelL] at h ⊢; exact h
  | x :: xs, vs, k, h => by
    simp only [noKL, Bool.and_eq_true] at k
    simp only [RelL] at h ⊢
    obtain ⟨v, r, e, h1, h2⟩ := h
    exact ⟨v, r, e, rel_off ha k.1 h1, relL_off ha k.2 h2⟩
end
theorem relC_off (ha : F a = some (.frz od (.dK l))) {c : Cell} {o : Option HO} (k : noKC c = true) (h : RelC g F ρ c o) : RelC g (offF F a) ρ c o := by
  cases c with
  | lst xs =>
    obtain ⟨vs, e, r⟩ := h
    exact ⟨vs, e, relL_off ha k r⟩
  | dct ks xs =>
    obtain ⟨vs, e, z, r⟩ := h
    exact ⟨vs, e, z, relL_off ha k r⟩
  | ins c fs xs =>
    obtain ⟨C, dx, vs, m, e, z, r⟩ := h
    exact ⟨C, dx, vs, m, e, z, relL_off ha k r⟩
  | dead => exact h
theorem Sim.unlock {k : Nat} {ks : List Key} {xs : List IV} {vs : List V} (hs : Sim g F ρ cs H) (e : cs[k]? = some .dead) (hr : ρ[k]? = some a) (ha : F a = some (.frz od (.dK (ks.zip vs)))) (hc : ∀ c ∈ cs, noKC c = true) (rx : RelL g (offF F a) ρ xs vs) (hl : ks.length = vs.length) :
    Sim g (offF F a) ρ (cs.set k (.dct ks xs)) (upd H a (.dK (ks.zip vs))) := by
  have hH := hs.fz a _ ha
  have hk := (List.getElem?_eq_some_iff.mp e).1
  refine ⟨fun b u h => ?_, by rw [List.length_set]; exact hs.len, hs.nd, fun b hb => ?_, fun n c b e1 e2 e3 => ?_, fun n c b e1 e2 => ?_, tabs_upd hs.tb (by rw [hH]; exact NoX.frz), fun b hb => ?_, fun b ps h => ?_⟩
  · by_cases z : b = a
    · rw [z, off_at] at h; cases h
    · rw [off_ne z] at h; rw [upd_ne z]; exact hs.fz b u h
  · by_cases z : b = a
    · rw [z, upd_same]; intro y; cases y
    · rw [upd_ne z]; exact hs.av b hb
  · by_cases z : n = k
    · subst z
      rw [hr] at e2; cases e2
      exact off_at
    · rw [List.getElem?_set_ne (fun y => z y.symm)] at e1
      have hb := hs.lv n c b e1 e2 e3
      by_cases y : b = a
      · rw [y]; exact off_at
      · rw [off_ne y]; exact hb
  · by_cases z : n = k
    · subst z
      rw [hr] at e2; cases e2
      rw [List.getElem?_set_self hk] at e1
      cases e1
      rw [upd_same]
      exact ⟨vs, rfl, hl, rx⟩
    · rw [List.getElem?_set_ne (fun y => z y.symm)] at e1
      have hb := hs.ok n c b e1 e2
      rw [upd_ne (nd_ne hs.nd hr e2 (fun y => z y.symm))]
      exact relC_off ha (hc c (List.mem_of_getElem? e1)) hb
  · by_cases z : b = a
    · rw [z, upd_same]; exact NoX.dK
    · rw [upd_ne z]; exact hs.nx b hb
  · by_cases z : b = a
    · rw [z, off_at] at h; cases h
    · rw [off_ne z] at h; exact hs.ft b ps h
theorem Stp.unlock {u : HO} (hF : F a = none) (hr : a ∈ ρ) (t : Stp (upd F a (.frz od (.dK l))) ρ (upd H a (.frz od (.dK l))) F2 ρ2 H2) : Stp F ρ H (offF F2 a) ρ2 (upd H2 a u) := by
  refine ⟨fun b o h => ?_, fun b h h' => ?_, t.rp, fun b h h' => ?_, fun b o h nt hn hu => ?_, fun b h => ?_⟩
  · have z : b ≠ a := fun z => by rw [z, hF] at h; cases h
    rw [off_ne z]
    exact t.fz b o (by rw [upd_ne z]; exact h)
  · have z : b ≠ a := fun z => h (by rw [z]; exact off_at)
    rw [off_ne z] at h
    have := t.fn b h (by rw [upd_ne z]; exact h')
    rwa [upd_ne z] at this
  · have z : b ≠ a := fun z => h' (z ▸ hr)
    have := t.rn b h h'
    rwa [upd_ne z] at this
  · have z : b ≠ a := fun z => hn (z ▸ hr)
    rw [upd_ne z]
    exact t.fr b o (by rw [upd_ne z]; exact h) nt hn hu
  · by_cases z : b = a
    · rw [z, upd_same]; intro y; cases y
    · rw [upd_ne z]; exact t.dm b (by rw [upd_ne z]; exact h)
end
def lockOk (y : IV) (xs : List IV) (cs : List Cell) (k : Nat) : Bool := noK y && (noKL xs && (cs.all noKC && (match cs[k]? with
  | some .dead => true
  | _ => false)))
theorem lockOk_of {y : IV} {xs : List IV} {cs : List Cell} {k : Nat} (h : lockOk y xs cs k = true) : noK y = true ∧ noKL xs = true ∧ (∀ c ∈ cs, noKC c = true) ∧ cs[k]? = some .dead := by
  unfold lockOk at h
  simp only [Bool.and_eq_true] at h
  refine ⟨h.1, h.2.1, List.all_eq_true.mp h.2.2.1, ?_⟩
  have z := h.2.2.2
  split at z
  · assumption
  · cases z
def eLockE (i : Nat) (m : M IV) : M IV := fun n σ cs => match σ[i]? with
  | some (.v (.cell k)) => match cs[k]? with
    | some (.dct ks xs) => match m n (σ.set i (.v (.dct ks xs))) (cs.set k .dead) with
      | .ok y cs2 => if lockOk y xs cs2 k = true then .ok y (cs2.set k (.dct ks xs)) else .stuck
      | .ex e cs2 => .ex e cs2
      | .stuck => .stuck
    | _ => m n σ cs
  | _ => m n σ cs
theorem pe_or {X : Cx} {e : Expr} {t t2 : TE} (h : PE X e t) (h2 : PE X e t2) : PE X e (fun σ H Q => t σ H Q ∨ t2 σ H Q) := ⟨fun pins s σ H Q I q => q.elim (h.run pins s σ H Q I) (h2.run pins s σ H Q I)⟩
section
variable {X : Cx} {n : Nat} {W : WX} {e : Expr} {m : M IV}
theorem je_lockE (i : Nat) (h : JE X n W e m) : JE X n W e (eLockE i m) := by
  refine pe_imp (pe_or h (pe_lock h)) fun σ H Q q => ?_
  obtain ⟨F, ρ, cs, σi, hs, hl, hp⟩ := q
  have same : eLockE i m n σi cs = m n σi cs → tG (gx X) n W (Rel (gx X)) m σ H Q := fun z => ⟨F, ρ, cs, σi, hs, hl, by rw [← z]; exact hp⟩
  cases e1 : σi[i]? with
  | none => exact .inl (same (by unfold eLockE; rw [e1]))
  | some sv =>
    cases sv with
    | v x =>
      cases x with
      | cell k =>
        cases e2 : cs[k]? with
        | none => exact .inl (same (by unfold eLockE; rw [e1]; dsimp only; rw [e2]))
        | some c =>
          cases c with
          | dct ks xs =>
            right
            obtain ⟨v, h1, h2⟩ := hl.at_ i _ e1
            simp only [Rel] at h2
            obtain ⟨a, rfl, h2⟩ := h2
            obtain ⟨vs, h3, h4, h5⟩ := hs.ok k _ a e2 h2
            have fa := hs.lv k _ a e2 h2 (by intro z; cases z)
            have ma : a ∈ ρ := List.mem_of_getElem? h2
            refine ⟨a, .dK (ks.zip vs), h3, True.intro, fun od => ?_⟩
            obtain ⟨s1, s2⟩ := hs.frzH (o := .frz od (.dK (ks.zip vs))) e2 (by intro z; cases z) h2 NoX.frz
            have hk := (List.getElem?_eq_some_iff.mp e2).1
            have hi := (List.getElem?_eq_some_iff.mp e1).1
            have fm : ∀ b u, F b = some u → upd F a (.frz od (.dK (ks.zip vs))) b = some u := fun b u h => upd_none fa h
            have l1 := hl.stp s2
            have hl1 : Slts (gx X) (upd F a (.frz od (.dK (ks.zip vs)))) ρ (upd H a (.frz od (.dK (ks.zip vs)))) (σi.set i (.v (.dct ks xs))) σ := by
              refine ⟨by rw [List.length_set]; exact l1.len, fun j s hj => ?_, fun j1 j2 xs1 ys1 b q1 q2 q3 q4 => ?_⟩
              · by_cases z : j = i
                · subst z
                  rw [List.getElem?_set_self hi] at hj
                  cases hj
                  refine ⟨.ref a, h1, ?_⟩
                  simp only [Rel]
                  exact ⟨a, vs, rfl, h4, ⟨od, upd_same⟩, h5.mono fm ⟨[], by simp⟩⟩
                · rw [List.getElem?_set_ne (fun y => z y.symm)] at hj
                  exact l1.at_ j s hj
              · have n1 : j1 ≠ i := fun z => by rw [z, List.getElem?_set_self hi] at q1; cases q1
                have n2 : j2 ≠ i := fun z => by rw [z, List.getElem?_set_self hi] at q2; cases q2
                rw [List.getElem?_set_ne (fun y => n1 y.symm)] at q1
                rw [List.getElem?_set_ne (fun y => n2 y.symm)] at q2
                exact l1.ow j1 j2 xs1 ys1 b q1 q2 q3 q4
            refine ⟨_, ρ, _, _, s1, hl1, ?_⟩
            have hp2 : eLockE i m n σi cs = (match m n (σi.set i (.v (.dct ks xs))) (cs.set k .dead) with
              | .ok y cs2 => if lockOk y xs cs2 k = true then .ok y (cs2.set k (.dct ks xs)) else .stuck
              | .ex e cs2 => .ex e cs2
              | .stuck => .stuck) := by unfold eLockE; rw [e1]; dsimp only; rw [e2]
            rw [hp2] at hp
            cases q : m n (σi.set i (.v (.dct ks xs))) (cs.set k .dead) with
            | stuck => rw [q] at hp; exact hp.elim
            | ex y cs2 =>
              rw [q] at hp
              exact fun F' ρ' H' cls d st sm r => hp F' ρ' H' cls d (s2.tr st) sm r
            | ok y cs2 =>
              rw [q] at hp
              dsimp only at hp
              split at hp
              · rename_i hc
                obtain ⟨c1, c2, c3, c4⟩ := lockOk_of hc
                intro F2 ρ2 H2 v st sm r
                have fa2 := st.fz a _ upd_same
                have ha2 := sm.fz a _ fa2
                refine ⟨ha2, ?_⟩
                obtain ⟨t, rfl⟩ := st.rp
                have hr2 : (ρ ++ t)[k]? = some a := by rw [List.getElem?_append_left (List.getElem?_eq_some_iff.mp h2).1]; exact h2
                have st2 := Stp.unlock (u := .dK (ks.zip vs)) fa ma st
                have rx : RelL (gx X) (offF F2 a) (ρ ++ t) xs vs := h5.stp st2
                exact hp _ _ _ v st2 (sm.unlock c4 hr2 fa2 c3 rx h4) (rel_off fa2 c1 r)
              · exact hp.elim
          | _ => exact .inl (same (by unfold eLockE; rw [e1]; dsimp only; rw [e2]))
      | _ => exact .inl (same (by unfold eLockE; rw [e1]))
    | _ => exact .inl (same (by unfold eLockE; rw [e1]))
/-- the dict is live -/
theorem ev_lock_live {σ : List SV} {cs : List Cell} {i k : Nat} {ks : List Key} {xs : List IV} (h1 : σ[i]? = some (.v (.cell k))) (h2 : cs[k]? = some (.dct ks xs)) : eLockE i m n σ cs = (match m n (σ.set i (.v (.dct ks xs))) (cs.set k .dead) with
      | .ok y cs2 => if lockOk y xs cs2 k = true then .ok y (cs2.set k (.dct ks xs)) else .stuck
      | .ex e cs2 => .ex e cs2
      | .stuck => .stuck) := by unfold eLockE; rw [h1]; dsimp only; rw [h2]
/-- it is none, or it stands still -/
theorem ev_lock_no {σ : List SV} {cs : List Cell} {i : Nat} (h : ∀ k, σ[i]? ≠ some (.v (.cell k))) : eLockE i m n σ cs = m n σ cs := by
  unfold eLockE
  split
  · rename_i k e
    exact absurd e (h k)
  · rfl
end
end SL

set_option Elab.async false
set_option linter.all false
set_option autoImplicit false
set_option maxRecDepth 100000
set_option maxHeartbeats 4000000
namespace K09
open PySem PySem.Spec L2 SL
open PyProof.Rows hiding St
def topS (i : Nat) : Stmt := PySem.Challenge.pw_whatiftimes_k09_settings.main.body.getD i (.Pass ⟨0, 0, 0, 0⟩)
abbrev st__law_numbers : Stmt := topS 18
theorem sc__law_numbers : FnScope ["_law_cell", "_law_salt", "_law_sizes", "_law_whole", "_law_left", "_law_result", "_law_k", "_law_one"] ["_law_cell", "_law_salt", "_law_sizes"] (defScope st__law_numbers) := ⟨rfl, rfl, rfl, by decide +kernel, rfl, by decide +kernel, by decide +kernel⟩
def m__law_numbers : SM := sSeq (sSet 3 (eCall fMax2 (aCons (eV 0) (aCons (e2 bSub (eNeg (M.pure (.int 1))) (eV 0)) (aNil))))) (sSeq (sSet 4 (eV 3)) (sSeq (sOwn 5 (aNil)) (sSeq (sFor (mRg1 (aCons (eCall fLen (aCons (eV 2) (aNil))) (aNil))) (gmN 6) (sIf (mAnd (mB (e2 cGe (eV 3) (e2 bPow (M.pure (.int 10)) (M.pure (.int 18))))) (mB (e2 cGt (eV 4) (M.pure (.int 0))))) (sSeq (sApp 5 (e2 bMod (eV 4) (e2c ixI (eV 2) (eV 6)))) (sSet 4 (e2 bFdiv (eV 4) (e2c ixI (eV 2) (eV 6))))) (sSeq (sSet 7 (e2 bMod (e2 bPow (e2 bAdd (e2 bAdd (e2 bMod (eV 3) (M.pure (.int 2147483629))) (e2 bMul (M.pure (.int 7919)) (eV 1))) (M.pure (.int 1))) (M.pure (.int 3))) (M.pure (.int 2147483647)))) (sSeq (sSet 7 (e2 bMod (e2 bMul (e2 bAdd (eV 7) (e2 bMul (M.pure (.int 104729)) (e2 bAdd (eV 6) (M.pure (.int 1))))) (e2 bAdd (eV 6) (M.pure (.int 3)))) (M.pure (.int 2147483629)))) (sSeq (sSet 7 (e2 bMod (e2 bMul (e2 bMod (e2 bPow (eV 7) (M.pure (.int 5))) (M.pure (.int 2147483647))) (M.pure (.int 48271))) (M.pure (.int 2147483629)))) (sApp 5 (e2 bMod (e2 bFdiv (eV 7) (M.pure (.int 16))) (e2c ixI (eV 2) (eV 6))))))))) (sFrz 5 (sRet (eV 5))))))
def f__law_numbers : FM := fnM 8 m__law_numbers
abbrev st__law_draw : Stmt := topS 19
theorem sc__law_draw : FnScope ["_law_state", "_law_many", "_law_at"] ["_law_state", "_law_many"] (defScope st__law_draw) := ⟨rfl, rfl, rfl, by decide +kernel, rfl, by decide +kernel, by decide +kernel⟩
def m__law_draw : SM := sSeq (sSet 2 (e2c ixI (eV 0) (M.pure (.int 1)))) (sSeq (sSetIx (eV 0) (M.pure (.int 1)) (e2 bAdd (eV 2) (M.pure (.int 1)))) (sRet (eIf (mB (e2 cLt (eV 2) (eCall fLen (aCons (e2c ixI (eV 0) (M.pure (.int 0))) (aNil))))) (e2 bMod (eCall fInt (aCons (e2c ixI (e2c ixI (eV 0) (M.pure (.int 0))) (eV 2)) (aNil))) (eV 1)) (M.pure (.int 0)))))
def f__law_draw : FM := fnM 3 m__law_draw
abbrev st__law_slow : Stmt := topS 20
theorem sc__law_slow : FnScope ["_law_state", "_law_found", "_law_part"] ["_law_state"] (defScope st__law_slow) := ⟨rfl, rfl, rfl, by decide +kernel, rfl, by decide +kernel, by decide +kernel⟩
def m__law_slow : SM := sSeq (sSet 1 eDis0) (sSeq (sFor (mIt (eLst (aCons (M.pure (.str "q")) (aCons (M.pure (.str "p")) (aCons (M.pure (.str "abcdefgh")) (aCons (M.pure (.str "zz")) (aNil))))))) (gmN 2) (sIf (mB (e2 cEq (eFn f__law_draw 2 [] (aCons (eV 0) (aCons (M.pure (.int 2)) (aNil)))) (M.pure (.int 0)))) (sDPutI (eV 1) (eV 2) (e2c ixI (eLst (aCons (M.pure (.int 0)) (aCons (M.pure (.int 1)) (aCons (eFn f__law_draw 2 [] (aCons (eV 0) (aCons (M.pure (.int 420)) (aNil)))) (aCons (e2 bPow (M.pure (.int 10)) (M.pure (.int 6))) (aNil)))))) (eFn f__law_draw 2 [] (aCons (eV 0) (aCons (M.pure (.int 4)) (aNil)))))) (sNext))) (sRet (eFrz (eV 1))))
def f__law_slow : FM := fnM 3 m__law_slow
abbrev st_is_name : Stmt := topS 7
theorem sc_is_name : FnScope ["value", "sign"] ["value"] (defScope st_is_name) := ⟨rfl, rfl, rfl, by decide +kernel, rfl, by decide +kernel, by decide +kernel⟩
def m_is_name : SM := sSeq (sIf (mOr (mNot (mT (eCall fIsi (aCons (eV 0) (aCons (M.pure (.ty "str")) (aNil)))))) (mNot (mB (eChain cLe cLe (M.pure (.int 1)) (eCall fLen (aCons (eV 0) (aNil))) (M.pure (.int 8)))))) (sRet (M.pure (.bl false))) (sNext)) (sRet (eCall fAll (aCons (eLc (mIt (eV 0)) (gmN 1) (M.pure true) (e2 cIn (eV 1) (M.pure (.str "abcdefghijklmnopqrstuvwxyz"))) [1]) (aNil))))
def f_is_name : FM := fnM 2 m_is_name
abbrev st_is_integer : Stmt := topS 9
theorem sc_is_integer : FnScope ["value"] ["value"] (defScope st_is_integer) := ⟨rfl, rfl, rfl, by decide +kernel, rfl, by decide +kernel, by decide +kernel⟩
def m_is_integer : SM := sRet (eAnd (eCall fIsi (aCons (eV 0) (aCons (M.pure (.ty "int")) (aNil)))) (eNot (eCall fIsi (aCons (eV 0) (aCons (M.pure (.ty "bool")) (aNil))))))
def f_is_integer : FM := fnM 1 m_is_integer
abbrev st_is_between : Stmt := topS 10
theorem sc_is_between : FnScope ["value", "least", "most"] ["value", "least", "most"] (defScope st_is_between) := ⟨rfl, rfl, rfl, by decide +kernel, rfl, by decide +kernel, by decide +kernel⟩
def m_is_between : SM := sRet (eAnd (eFn f_is_integer 1 [] (aCons (eV 0) (aNil))) (eChain cLe cLe (eV 1) (eV 0) (eV 2)))
def f_is_between : FM := fnM 3 m_is_between
abbrev st_are_slownesses : Stmt := topS 15
theorem sc_are_slownesses : FnScope ["value", "part"] ["value"] (defScope st_are_slownesses) := ⟨rfl, rfl, rfl, by decide +kernel, rfl, by decide +kernel, by decide +kernel⟩
def m_are_slownesses : SM := sSeq (sIf (mNot (mT (eCall fIsi (aCons (eV 0) (aCons (M.pure (.ty "dict")) (aNil)))))) (sRet (M.pure (.bl false))) (sNext)) (sRet (eCall fAll (aCons (eLockE 0 (eLc (mKeys (eV 0)) (gmN 1) (M.pure true) (eAnd (eFn f_is_name 1 [] (aCons (eV 1) (aNil))) (eFn f_is_between 3 [] (aCons (e2c dixI (eV 0) (eV 1)) (aCons (M.pure (.int 0)) (aCons (M.pure (.int 1000000)) (aNil)))))) [1])) (aNil))))
def f_are_slownesses : FM := fnM 2 m_are_slownesses
abbrev st_Setting_init : Stmt := (match topS 16 with | .ClassDef _ _ _ b _ _ _ _ _ _ _ => b.getD 0 (.Pass ⟨0, 0, 0, 0⟩) | s => s)
theorem sc_Setting_init : FnScope ["self", "slownesses", "rule", "given", "part"] ["self", "slownesses", "rule"] (defScope st_Setting_init) := ⟨rfl, rfl, rfl, by decide +kernel, rfl, by decide +kernel, by decide +kernel⟩
def m_Setting_init : SM := sSeq (sIf (mAnd (mB (e2 cIsNot (eV 1) (M.pure .non))) (mNot (mT (eFn f_are_slownesses 1 [] (aCons (eV 1) (aNil)))))) (sRaise "InvalidSetting" "value" (eV 1)) (sNext)) (sSeq (sIf (mOr (mNot (mT (eCall fIsi (aCons (eV 2) (aCons (M.pure (.ty "str")) (aNil)))))) (mB (e2 cNotIn (eV 2) (M.pure (.tup [(.str "turn"), (.str "number")]))))) (sRaise "InvalidSetting" "value" (eV 2)) (sNext)) (sSeq (sSet 3 (eIf (mB (e2 cIs (eV 1) (M.pure .non))) (M.pure (.dct [] [])) (eV 1))) (sSeq (sFld "Setting" "own_slownesses" (eV 0) (eFrz (eLockE 3 (eDc (mIt (eCall fSortedD (aCons (eV 3) (aNil)))) (gmN 4) (mB (e2 cNe (e2c dixI (eV 3) (eV 4)) (M.pure (.int 1)))) (eV 4) (e2c dixI (eV 3) (eV 4)) [4])))) (sFld "Setting" "own_rule" (eV 0) (eV 2)))))
def f_Setting_init : FM := fnM 5 m_Setting_init
abbrev st_Setting_slowness : Stmt := (match topS 16 with | .ClassDef _ _ _ b _ _ _ _ _ _ _ => b.getD 2 (.Pass ⟨0, 0, 0, 0⟩) | s => s)
theorem sc_Setting_slowness : FnScope ["self", "part"] ["self", "part"] (defScope st_Setting_slowness) := ⟨rfl, rfl, rfl, by decide +kernel, rfl, by decide +kernel, by decide +kernel⟩
def m_Setting_slowness : SM := sSeq (sIf (mNot (mT (eFn f_is_name 1 [] (aCons (eV 1) (aNil))))) (sRaise "UnknownName" "name" (eV 1)) (sNext)) (sRet (eGetD (eFld "Setting" "own_slownesses" (eV 0)) (eV 1) (M.pure (.int 1))))
def f_Setting_slowness : FM := fnM 2 m_Setting_slowness
abbrev st_Setting_rule : Stmt := (match topS 16 with | .ClassDef _ _ _ b _ _ _ _ _ _ _ => b.getD 1 (.Pass ⟨0, 0, 0, 0⟩) | s => s)
theorem sc_Setting_rule : FnScope ["self"] ["self"] (defScope st_Setting_rule) := ⟨rfl, rfl, rfl, by decide +kernel, rfl, by decide +kernel, by decide +kernel⟩
def m_Setting_rule : SM := sRet (eFld "Setting" "own_rule" (eV 0))
def f_Setting_rule : FM := fnM 1 m_Setting_rule
abbrev st_Setting_with_slowness : Stmt := (match topS 16 with | .ClassDef _ _ _ b _ _ _ _ _ _ _ => b.getD 3 (.Pass ⟨0, 0, 0, 0⟩) | s => s)
theorem sc_Setting_with_slowness : FnScope ["self", "part", "slowness"] ["self", "part", "slowness"] (defScope st_Setting_with_slowness) := ⟨rfl, rfl, rfl, by decide +kernel, rfl, by decide +kernel, by decide +kernel⟩
def m_Setting_with_slowness : SM := sSeq (sIf (mNot (mT (eFn f_is_name 1 [] (aCons (eV 1) (aNil))))) (sRaise "UnknownName" "name" (eV 1)) (sNext)) (sSeq (sIf (mNot (mT (eFn f_is_between 3 [] (aCons (eV 2) (aCons (M.pure (.int 0)) (aCons (M.pure (.int 1000000)) (aNil))))))) (sRaise "InvalidSetting" "value" (eV 2)) (sNext)) (sRet (eFrz (eMkK "Setting" f_Setting_init 3 1 1 [] (aCons (eStar (eFld "Setting" "own_slownesses" (eV 0)) [(eV 1, eV 2)]) (aNil)) (aCons (eFld "Setting" "own_rule" (eV 0)) (aNil))))))
def f_Setting_with_slowness : FM := fnM 3 m_Setting_with_slowness
abbrev st_Setting_eq : Stmt := (match topS 16 with | .ClassDef _ _ _ b _ _ _ _ _ _ _ => b.getD 5 (.Pass ⟨0, 0, 0, 0⟩) | s => s)
theorem sc_Setting_eq : FnScope ["self", "other"] ["self", "other"] (defScope st_Setting_eq) := ⟨rfl, rfl, rfl, by decide +kernel, rfl, by decide +kernel, by decide +kernel⟩
def m_Setting_eq : SM := sSeq (sIf (mNot (mT (eCall (fIsC "Setting") (aCons (eV 1) (aCons (M.pure (.glb "Setting")) aNil))))) (sRet (M.pure (.bl false))) (sNext)) (sRet (eAnd (e2 cEq (eFld "Setting" "own_rule" (eV 0)) (eFld "Setting" "own_rule" (eV 1))) (e2 dEq (eFld "Setting" "own_slownesses" (eV 0)) (eFld "Setting" "own_slownesses" (eV 1)))))
def f_Setting_eq : FM := fnM 2 m_Setting_eq
abbrev st__law_right : Stmt := topS 22
theorem sc__law_right : FnScope ["_law_state", "_law_handed", "_law_setting", "_law_parts", "_law_told", "_law_turn", "_law_turned", "_law_other", "_law_slow_here", "_law_order", "_law_later", "_law_part", "_law_number", "_law_value"] ["_law_state"] (defScope st__law_right) := ⟨rfl, rfl, rfl, by decide +kernel, rfl, by decide +kernel, by decide +kernel⟩
def m__law_right : SM := sSeq (sAsg (gmTup 2 (gmCons (gmN 8) (gmCons (gmN 9) (gmNil)))) (eTup (aCons (eFn f__law_slow 1 [] (aCons (eV 0) (aNil))) (aCons (e2c ixI (eLst (aCons (M.pure (.str "turn")) (aCons (M.pure (.str "number")) (aNil)))) (eFn f__law_draw 2 [] (aCons (eV 0) (aCons (M.pure (.int 2)) (aNil))))) (aNil))))) (sSeq (sSet 1 (eCallN fDict (aCons (eV 8) (aNil)))) (sSeq (sSet 2 (eFrz (eMkK "Setting" f_Setting_init 3 1 1 [] (aCons (eV 1) (aNil)) (aCons (eV 9) (aNil))))) (sSeq (sDPutI (eV 1) (M.pure (.str "p")) (M.pure (.int 77))) (sSeq (sSet 3 (eLst (aCons (M.pure (.str "abcdefgh")) (aCons (M.pure (.str "p")) (aCons (M.pure (.str "q")) (aCons (M.pure (.str "zz")) (aCons (M.pure (.str "other")) (aNil)))))))) (sSeq (sSet 4 (eLc (mIt (eV 3)) (gmN 11) (M.pure true) (eMeth "Setting" "slowness" f_Setting_slowness 2 [] (eV 2) (aCons (eV 11) (aNil))) [11])) (sSeq (sIf (mOr (mB (e2 cNe (eProp "Setting" "rule" f_Setting_rule (eV 2)) (eV 9))) (mB (e2 cNe (eV 4) (eLc (mIt (eV 3)) (gmN 11) (M.pure true) (eGetD (eV 8) (eV 11) (M.pure (.int 1))) [11])))) (sRet (M.pure (.bl false))) (sNext)) (sSeq (sFor (mRg1 (aCons (M.pure (.int 6)) (aNil))) (gmN 5) (sSeq (sPar 11 12 (e2c ixI (eV 3) (eFn f__law_draw 2 [] (aCons (eV 0) (aCons (M.pure (.int 5)) (aNil))))) (e2c ixI (eLst (aCons (M.pure (.int 0)) (aCons (M.pure (.int 1)) (aCons (e2 bPow (M.pure (.int 10)) (M.pure (.int 6))) (aCons (eFn f__law_draw 2 [] (aCons (eV 0) (aCons (M.pure (.int 9)) (aNil)))) (aNil)))))) (eFn f__law_draw 2 [] (aCons (eV 0) (aCons (M.pure (.int 4)) (aNil)))))) (sSeq (sSet 10 (eMeth "Setting" "with_slowness" f_Setting_with_slowness 3 [] (eV 2) (aCons (eV 11) (aCons (eV 12) (aNil))))) (sSeq (sIf (mOr (mB (e2 cNe (eMeth "Setting" "slowness" f_Setting_slowness 2 [] (eV 10) (aCons (eV 11) (aNil))) (eV 12))) (mOr (mB (e2 cNe (eProp "Setting" "rule" f_Setting_rule (eV 10)) (eV 9))) (mB (e2 cNe (eMeth "Setting" "slowness" f_Setting_slowness 2 [] (eV 2) (aCons (eV 11) (aNil))) (eGetD (eV 8) (eV 11) (M.pure (.int 1))))))) (sRet (M.pure (.bl false))) (sNext)) (sSeq (sIf (mB (e2 cNe (eqC "Setting" f_Setting_eq false (eV 10) (eV 2)) (e2 cEq (eGetD (eV 8) (eV 11) (M.pure (.int 1))) (eV 12)))) (sRet (M.pure (.bl false))) (sNext)) (sAsg (gmTup 2 (gmCons (gmN 2) (gmCons (gmN 8) (gmNil)))) (eTup (aCons (eV 10) (aCons (eFrz (eCallN fDict (aCons (e2 bAdd (eItems (eV 8)) (eLst (aCons (eTup (aCons (eV 11) (aCons (eV 12) (aNil)))) (aNil)))) (aNil)))) (aNil)))))))))) (sSeq (sSet 6 (eFrz (eCallN fDict (aCons (e2 bAdd (eRev (eItems (eV 8))) (eLst (aCons (eTup (aCons (M.pure (.str "spare")) (aCons (M.pure (.int 1)) (aNil)))) (aNil)))) (aNil))))) (sSeq (sIf (mOr (mNot (mB (eqC "Setting" f_Setting_eq false (eV 2) (eFrz (eMkK "Setting" f_Setting_init 3 1 1 [] (aCons (eV 6) (aNil)) (aCons (eV 9) (aNil))))))) (mB (eqC "Setting" f_Setting_eq true (eV 2) (eFrz (eMkK "Setting" f_Setting_init 3 1 1 [] (aCons (eV 6) (aNil)) (aCons (eV 9) (aNil))))))) (sRet (M.pure (.bl false))) (sNext)) (sSeq (sSet 7 (eFrz (eMkK "Setting" f_Setting_init 3 1 1 [] (aCons (eV 8) (aNil)) (aCons (e2c ixI (eLst (aCons (M.pure (.str "turn")) (aCons (M.pure (.str "number")) (aNil)))) (eCall fInt (aCons (e2 cEq (eV 9) (M.pure (.str "turn"))) (aNil)))) (aNil))))) (sSeq (sIf (mB (eqC "Setting" f_Setting_eq false (eV 2) (eV 7))) (sRet (M.pure (.bl false))) (sNext)) (sRet (e2 cEq (eLc (mIt (eLst (aCons (M.pure .non) (aCons (eV 8) (aCons (eV 9) (aCons (M.pure (.int 5)) (aNil))))))) (gmN 13) (mB (eqC "Setting" f_Setting_eq false (eV 2) (eV 13))) (eV 13) [13]) (eLst (aNil)))))))))))))))
def f__law_right : FM := fnM 14 m__law_right
abbrev st__law_odd_right : Stmt := topS 23
theorem sc__law_odd_right : FnScope ["_law_odd"] [] (defScope st__law_odd_right) := ⟨rfl, rfl, rfl, by decide +kernel, rfl, by decide +kernel, by decide +kernel⟩
abbrev st__law_heard : Stmt := topS 21
theorem sc__law_heard : FnScope ["_law_call", "e"] ["_law_call"] (defScope st__law_heard) := ⟨rfl, rfl, rfl, by decide +kernel, rfl, by decide +kernel, by decide +kernel⟩
def acc__law_heard_0 : Str → Option Bool := fun c => if c = "InvalidSetting" then some true else if c = "UnknownName" then some false else none
noncomputable def hd__law_heard_0 : HM := fun a cls d => sRet (eLst (aCons (M.pure (.str "setting")) (aCons (eCall fRepr (aCons (eXf a cls d 1 "value") (aNil))) (aCons (eIsX a cls d 1 true) (aNil)))))
def acc__law_heard_1 : Str → Option Bool := fun c => if c = "InvalidSetting" then some false else if c = "UnknownName" then some true else none
noncomputable def hd__law_heard_1 : HM := fun a cls d => sRet (eLst (aCons (M.pure (.str "unknown")) (aCons (eCall fRepr (aCons (eXf a cls d 1 "name") (aNil))) (aNil))))
noncomputable def cl__law_heard : List Cl := [⟨acc__law_heard_0, 1, hd__law_heard_0⟩, ⟨acc__law_heard_1, 1, hd__law_heard_1⟩]
noncomputable def m__law_odd_right : SM := sSeq (sFor (mIt (eLst (aCons (M.pure (.int 5)) (aCons (M.pure (.str "p")) (aCons (eLst (aNil)) (aCons (eTup (aCons (M.pure (.str "p")) (aNil))) (aCons (eDis [(M.pure (.str "A"), M.pure (.int 1))]) (aCons (eDis [(M.pure (.str "p"), eNeg (M.pure (.int 1)))]) (aCons (eDis [(M.pure (.str "p"), e2 bAdd (e2 bPow (M.pure (.int 10)) (M.pure (.int 6))) (M.pure (.int 1)))]) (aCons (eDis [(M.pure (.str "p"), M.pure (.bl true))]) (aCons (eDis [(M.pure (.str "p"), M.pure .non)]) (aCons (eDis [(M.pure (.int 5), M.pure (.int 1))]) (aCons (eDis [(M.pure (.str ""), M.pure (.int 1))]) (aNil)))))))))))))) (gmN 0) (sIf (mB (e2 cNe (eToldL 2 cl__law_heard (eFrz (eMkK "Setting" f_Setting_init 3 1 1 [] (aCons (eV 0) (aNil)) (aCons (M.pure .non) (aNil))))) (eLst (aCons (M.pure (.str "setting")) (aCons (eCall fRepr (aCons (eV 0) (aNil))) (aCons (M.pure (.bl true)) (aNil))))))) (sRet (M.pure (.bl false))) (sNext))) (sSeq (sFor (mIt (eLst (aCons (M.pure .non) (aCons (M.pure (.str "Turn")) (aCons (M.pure (.str "")) (aCons (M.pure (.int 5)) (aCons (eLst (aCons (M.pure (.str "turn")) (aNil))) (aCons (eTup (aCons (M.pure (.str "turn")) (aNil))) (aCons (M.pure (.bl true)) (aNil)))))))))) (gmN 0) (sIf (mB (e2 cNe (eToldL 2 cl__law_heard (eFrz (eMkK "Setting" f_Setting_init 3 1 1 [] (aCons (eDis [(M.pure (.str "p"), M.pure (.int 2))]) (aNil)) (aCons (eV 0) (aNil))))) (eLst (aCons (M.pure (.str "setting")) (aCons (eCall fRepr (aCons (eV 0) (aNil))) (aCons (M.pure (.bl true)) (aNil))))))) (sRet (M.pure (.bl false))) (sNext))) (sSeq (sFor (mIt (eLst (aCons (M.pure .non) (aCons (M.pure (.str "A")) (aCons (M.pure (.str "")) (aCons (M.pure (.int 5)) (aCons (eLst (aCons (M.pure (.str "p")) (aNil))) (aCons (M.pure (.str "abcdefghi")) (aNil))))))))) (gmN 0) (sIf (mB (e2 cNe (eToldL 2 cl__law_heard (eMeth "Setting" "with_slowness" f_Setting_with_slowness 3 [] (eFrz (eMk "Setting" f_Setting_init 3 [.non, (.str "turn")] aNil)) (aCons (eV 0) (aCons (M.pure .non) (aNil))))) (eLst (aCons (M.pure (.str "unknown")) (aCons (eCall fRepr (aCons (eV 0) (aNil))) (aNil)))))) (sRet (M.pure (.bl false))) (sNext))) (sSeq (sFor (mIt (eLst (aCons (M.pure .non) (aCons (eNeg (M.pure (.int 1))) (aCons (e2 bAdd (e2 bPow (M.pure (.int 10)) (M.pure (.int 6))) (M.pure (.int 1))) (aCons (M.pure (.bl true)) (aCons (M.pure (.str "1")) (aCons (eTup (aCons (M.pure (.int 1)) (aCons (M.pure (.int 1)) (aNil)))) (aNil))))))))) (gmN 0) (sIf (mB (e2 cNe (eToldL 2 cl__law_heard (eMeth "Setting" "with_slowness" f_Setting_with_slowness 3 [] (eFrz (eMk "Setting" f_Setting_init 3 [.non, (.str "turn")] aNil)) (aCons (M.pure (.str "p")) (aCons (eV 0) (aNil))))) (eLst (aCons (M.pure (.str "setting")) (aCons (eCall fRepr (aCons (eV 0) (aNil))) (aCons (M.pure (.bl true)) (aNil))))))) (sRet (M.pure (.bl false))) (sNext))) (sRet (eAnd (eqC "Setting" f_Setting_eq false (eFrz (eMk "Setting" f_Setting_init 3 [.non, (.str "turn")] aNil)) (eFrz (eMk "Setting" f_Setting_init 3 [(.str "turn")] (aCons (M.pure (.dct [] [])) (aNil))))) (eAnd (eqC "Setting" f_Setting_eq false (eFrz (eMk "Setting" f_Setting_init 3 [(.str "turn")] (aCons (M.pure .non) (aNil)))) (eFrz (eMkK "Setting" f_Setting_init 3 0 1 [.non] (aNil) (aCons (M.pure (.str "turn")) (aNil))))) (e2 cEq (eProp "Setting" "rule" f_Setting_rule (eFrz (eMk "Setting" f_Setting_init 3 [.non, (.str "turn")] aNil))) (M.pure (.str "turn")))))))))
noncomputable def f__law_odd_right : FM := fnM 1 m__law_odd_right
abbrev st_law : Stmt := topS 24
theorem sc_law : FnScope ["_law_script", "_law_k", "_law_cell", "_law_state"] ["_law_script"] (defScope st_law) := ⟨rfl, rfl, rfl, by decide +kernel, rfl, by decide +kernel, by decide +kernel⟩
noncomputable def m_law : SM := sSeq (sFor (mEn (aCons (e2 bAdd (eSl (eV 0) (oNone) (oSome (M.pure (.int 5)))) (e2 bMul (eLst (aCons (M.pure (.int 7)) (aNil))) (eCall fInt (aCons (e2 cEq (eV 0) (eLst (aNil))) (aNil))))) (aNil))) (gmTup 2 (gmCons (gmN 1) (gmCons (gmN 2) (gmNil)))) (sSeq (sOwn 3 (aCons (eFn f__law_numbers 3 [] (aCons (eV 2) (aCons (e2 bAdd (M.pure (.int 900)) (eV 1)) (aCons (e2 bMul (eLst (aCons (M.pure (.int 420)) (aNil))) (M.pure (.int 80))) (aNil))))) (aCons (M.pure (.int 0)) (aNil)))) (sCell 3 (sIf (mOr (mNot (mT (eFn f__law_right 1 [] (aCons (eV 3) (aNil))))) (mNot (mT (eFn f__law_odd_right 0 [] aNil)))) (sRet (M.pure (.bl false))) (sNext))))) (sRet (M.pure (.bl true)))
noncomputable def f_law : FM := fnM 4 m_law
abbrev st_InvalidSetting_init : Stmt := (match topS 2 with | .ClassDef _ _ _ b _ _ _ _ _ _ _ => b.getD 0 (.Pass ⟨0, 0, 0, 0⟩) | s => s)
abbrev st_UnknownName_init : Stmt := (match topS 3 with | .ClassDef _ _ _ b _ _ _ _ _ _ _ => b.getD 0 (.Pass ⟨0, 0, 0, 0⟩) | s => s)
/-- what the top has written -/
structure Mods (K : PySem.W.Frag) (w : World) (mg : Str → Option Value) : Prop where
  z_enumerate : mg "enumerate" = none
  z_int : mg "int" = none
  z_max : mg "max" = none
  z_range : mg "range" = none
  z_len : mg "len" = none
  z_dict : mg "dict" = none
  z_isinstance : mg "isinstance" = none
  z_all : mg "all" = none
  z_str : mg "str" = none
  z_bool : mg "bool" = none
  z_sorted : mg "sorted" = none
  z_list : mg "list" = none
  z_repr : mg "repr" = none
  c_MAX_LETTERS : ∃ t, mg "MAX_LETTERS" = some (.int 8 t)
  c_LOWERCASE : ∃ t, mg "LOWERCASE" = some (.str "abcdefghijklmnopqrstuvwxyz" t)
  c_MAX_SLOWNESS : ∃ t, mg "MAX_SLOWNESS" = some (.int 1000000 t)
  c_RULES : ∃ a, mg "RULES" = some (.ref a) ∧ ∃ vs, SqT K (fun _ => none) a vs ∧ RelL (gK K mg) (fun _ => none) [] [(.str "turn"), (.str "number")] vs
  c_USUAL_SLOWNESS : ∃ t, mg "USUAL_SLOWNESS" = some (.int 1 t)
  x_InvalidSetting : ∃ C fI, PySem.OwnEx.ExTxt K mg "InvalidSetting" "value" "InvalidSetting.__init__" "Exception" "Exception.__new__" "Exception.__init__" [.type "Exception", .type "BaseException", .type "object"] C fI
  x_UnknownName : ∃ C fI, PySem.OwnEx.ExTxt K mg "UnknownName" "name" "UnknownName.__init__" "KeyError" "LookupError.__new__" "LookupError.__init__" [.type "KeyError", .type "LookupError", .type "Exception", .type "BaseException", .type "object"] C fI
  g_TimesError : ∃ C, mg "TimesError" = some (.ref C)
  isC_InvalidSetting : ∀ C, mg "InvalidSetting" = some (.ref C) → PySem.OwnEx.IsC K C
  k_InvalidSetting_TimesError : ∀ C, mg "InvalidSetting" = some (.ref C) → ∀ D, mg "TimesError" = some (.ref D) → PySem.W.kitOne K (.ref C) (.ref D) = some true
  Q_Setting : ClsQ K mg "Setting"
  N_Setting : ∀ C, mg "Setting" = some (.ref C) → NeAt K C
  K_Setting : ∃ C, KlsG K mg "Setting" C
  n_Setting_own_slownesses : ∀ C, mg "Setting" = some (.ref C) → NoAttr K C "own_slownesses"
  n_Setting_own_rule : ∀ C, mg "Setting" = some (.ref C) → NoAttr K C "own_rule"
section
variable {P : Program} {w : World} {K : PySem.W.Frag} {mg : Str → Option Value} {base : Heap} {n : Nat}
theorem s__law_heard (M : Mods K w mg) {k : Nat} : SuiteL P w K mg base n k ["_law_call", "e"] "_law_heard" (defScope st__law_heard) ((match defBody st__law_heard with | [.Try _ hs _ _ _] => hs | _ => [])) [(.ref M.x_InvalidSetting.choose, ⟨acc__law_heard_0, 1, hd__law_heard_0⟩), (.ref M.x_UnknownName.choose, ⟨acc__law_heard_1, 1, hd__law_heard_1⟩)] := by
  intro f cd A outer s H E hr hg
  exact (ClsG.cons rfl rfl ⟨rfl, by decide, .inl M.x_InvalidSetting.choose_spec.choose_spec.gC⟩ (fun a oe cls d pn hz hf => pss_and fun ho => by
    have hcl := okC_one (acc := acc__law_heard_0) (cn := "InvalidSetting") (fun c h => by unfold acc__law_heard_0 at h; (repeat' split at h) <;> first | assumption | cases h) ho M.x_InvalidSetting.choose_spec.choose_spec.gC
    show JB _ _ _ _ (hd__law_heard_0 a cls d)
    unfold hd__law_heard_0
    exact jb_one (js_ret (je_lst (ja_cons (je_str) (ja_cons (je_callB (cj_repr (by exact hg) (by exact hr.units)) M.z_repr bt_repr (ja_cons (je_xf (xfC_of M.x_InvalidSetting.choose_spec.choose_spec) M.x_InvalidSetting.choose_spec.choose_spec.noN hcl hz hf rfl (by first | exact Or.inl rfl | exact Or.inr (Or.inl rfl))) (ja_nil))) (ja_cons (je_isX (M.isC_InvalidSetting _ M.x_InvalidSetting.choose_spec.choose_spec.gC) hcl hz hf rfl (by first | exact Or.inl rfl | exact Or.inr (Or.inl rfl)) (pe_glob (v := .ref _) (by rfl) M.g_TimesError.choose_spec rfl) (fun u h => h) (M.k_InvalidSetting_TimesError _ M.x_InvalidSetting.choose_spec.choose_spec.gC _ M.g_TimesError.choose_spec) M.z_isinstance (by rfl) (by rfl)) (ja_nil))))))) (ClsG.cons rfl rfl ⟨rfl, by decide, .inl M.x_UnknownName.choose_spec.choose_spec.gC⟩ (fun a oe cls d pn hz hf => pss_and fun ho => by
    have hcl := okC_one (acc := acc__law_heard_1) (cn := "UnknownName") (fun c h => by unfold acc__law_heard_1 at h; (repeat' split at h) <;> first | assumption | cases h) ho M.x_UnknownName.choose_spec.choose_spec.gC
    show JB _ _ _ _ (hd__law_heard_1 a cls d)
    unfold hd__law_heard_1
    exact jb_one (js_ret (je_lst (ja_cons (je_str) (ja_cons (je_callB (cj_repr (by exact hg) (by exact hr.units)) M.z_repr bt_repr (ja_cons (je_xf (xfC_of M.x_UnknownName.choose_spec.choose_spec) M.x_UnknownName.choose_spec.choose_spec.noN hcl hz hf rfl (by first | exact Or.inl rfl | exact Or.inr (Or.inl rfl))) (ja_nil))) (ja_nil)))))) .nil))
theorem b__law_numbers (M : Mods K w mg)  : BodyG P w K mg base n 0 ["_law_cell", "_law_salt", "_law_sizes", "_law_whole", "_law_left", "_law_result", "_law_k", "_law_one"] "_law_numbers" (defScope st__law_numbers) (defBody st__law_numbers) m__law_numbers := by
  intro f cd A outer s H E hr hg
  unfold m__law_numbers
  exact jb_cons (js_set sc__law_numbers.nd rfl (by first | exact Or.inl rfl | exact Or.inr rfl) (je_callB (cj_max2 rfl) M.z_max bt_max (ja_cons (je_v 0) (ja_cons (je_op oj_sub (je_neg (je_int)) (je_v 0)) (ja_nil))))) (jb_cons (js_set sc__law_numbers.nd rfl (by first | exact Or.inl rfl | exact Or.inr rfl) (je_v 3)) (jb_cons (js_own sc__law_numbers.nd rfl (by first | exact Or.inl rfl | exact Or.inr rfl) (ja_nil)) (jb_cons (js_for ps_b rfl (ji_rg1 (ja_cons (je_callB (cj_len) M.z_len bt_len (ja_cons (je_v 2) (ja_nil))) (ja_nil)) M.z_range) (jg_n sc__law_numbers.nd rfl (by first | exact Or.inl rfl | exact Or.inr rfl)) (jb_one (js_if (jt_bool (jw_and (jt_cmp oj_ge (je_v 3) (je_op oj_pow (je_int) (je_int)) (by rfl)) (jw_and1 (jt_cmp oj_gt (je_v 4) (je_int) (by rfl))))) (jb_cons (js_app (i := 5) rfl (by first | exact Or.inl rfl | exact Or.inr (Or.inl rfl)) (je_op oj_mod (je_v 4) (je_ix (je_v 2) (je_v 6) (fun _ _ => rfl)))) (jb_one (js_set sc__law_numbers.nd rfl (by first | exact Or.inl rfl | exact Or.inr rfl) (je_op oj_fdiv (je_v 4) (je_ix (je_v 2) (je_v 6) (fun _ _ => rfl)))))) (jb_cons (js_set sc__law_numbers.nd rfl (by first | exact Or.inl rfl | exact Or.inr rfl) (je_op oj_mod (je_op oj_pow (je_op oj_add (je_op oj_add (je_op oj_mod (je_v 3) (je_int)) (je_op oj_mul (je_int) (je_v 1))) (je_int)) (je_int)) (je_int))) (jb_cons (js_set sc__law_numbers.nd rfl (by first | exact Or.inl rfl | exact Or.inr rfl) (je_op oj_mod (je_op oj_mul (je_op oj_add (je_v 7) (je_op oj_mul (je_int) (je_op oj_add (je_v 6) (je_int)))) (je_op oj_add (je_v 6) (je_int))) (je_int))) (jb_cons (js_set sc__law_numbers.nd rfl (by first | exact Or.inl rfl | exact Or.inr rfl) (je_op oj_mod (je_op oj_mul (je_op oj_mod (je_op oj_pow (je_v 7) (je_int)) (je_int)) (je_int)) (je_int))) (jb_one (js_app (i := 5) rfl (by first | exact Or.inl rfl | exact Or.inr (Or.inl rfl)) (je_op oj_mod (je_op oj_fdiv (je_v 7) (je_int)) (je_ix (je_v 2) (je_v 6) (fun _ _ => rfl))))))))))) (jb_frz (jb_one (js_ret (je_v 5)))))))
theorem b__law_draw (M : Mods K w mg)  : BodyG P w K mg base n 0 ["_law_state", "_law_many", "_law_at"] "_law_draw" (defScope st__law_draw) (defBody st__law_draw) m__law_draw := by
  intro f cd A outer s H E hr hg
  unfold m__law_draw
  exact jb_cons (js_set sc__law_draw.nd rfl (by first | exact Or.inl rfl | exact Or.inr rfl) (je_ix (je_v 0) (je_int) (fun _ _ => rfl))) (jb_cons (js_setIx (je_op oj_add (je_v 2) (je_int)) (je_v 0) (je_int)) (jb_one (js_ret (je_if (jt_cmp oj_lt (je_v 2) (je_callB (cj_len) M.z_len bt_len (ja_cons (je_ix (je_v 0) (je_int) (fun _ _ => rfl)) (ja_nil))) (by rfl)) (je_op oj_mod (je_callTy cj_int M.z_int bt_int (ja_cons (je_ix (je_ix (je_v 0) (je_int) (fun _ _ => rfl)) (je_v 2) (fun _ _ => rfl)) (ja_nil))) (je_v 1)) (je_int)))))
theorem b__law_slow (M : Mods K w mg) (d__law_draw : DefG P w K mg base n 1 "_law_draw" ["_law_state", "_law_many"] [] f__law_draw) : BodyG P w K mg base n 1 ["_law_state", "_law_found", "_law_part"] "_law_slow" (defScope st__law_slow) (defBody st__law_slow) m__law_slow := by
  intro f cd A outer s H E hr hg
  unfold m__law_slow
  exact jb_cons (js_set sc__law_slow.nd rfl (by first | exact Or.inl rfl | exact Or.inr rfl) je_disC) (jb_cons (js_for ps_b rfl (ji_of (je_lst (ja_cons (je_str) (ja_cons (je_str) (ja_cons (je_str) (ja_cons (je_str) (ja_nil))))))) (jg_n sc__law_slow.nd rfl (by first | exact Or.inl rfl | exact Or.inr rfl)) (jb_one (js_if (jt_cmp (oj_eq (by exact hr.units)) (je_call (k := 1) d__law_draw (by exact hr.mono (by decide)) (by exact hg) tk_b (ja_cons (je_v 0) (ja_cons (je_int) (ja_nil)))) (je_int) (by rfl)) (jb_one (js_dput (by exact un1 hr) (je_v 1) (je_v 2) (je_ix (je_lst (ja_cons (je_int) (ja_cons (je_int) (ja_cons (je_call (k := 1) d__law_draw (by exact hr.mono (by decide)) (by exact hg) tk_b (ja_cons (je_v 0) (ja_cons (je_int) (ja_nil)))) (ja_cons (je_op oj_pow (je_int) (je_int)) (ja_nil)))))) (je_call (k := 1) d__law_draw (by exact hr.mono (by decide)) (by exact hg) tk_b (ja_cons (je_v 0) (ja_cons (je_int) (ja_nil)))) (fun _ _ => rfl)))) (jb_nil)))) (jb_one (js_ret (je_frz (je_v 1)))))
theorem b_is_name (M : Mods K w mg)  : BodyG P w K mg base n 0 ["value", "sign"] "is_name" (defScope st_is_name) (defBody st_is_name) m_is_name := by
  intro f cd A outer s H E hr hg
  unfold m_is_name
  exact jb_cons (js_if (jt_bool (jw_or (jt_not (jt_tru (je_callB (cj_isi) M.z_isinstance bt_isinstance (ja_cons (je_v 0) (ja_cons (je_ty M.z_str bt_str) (ja_nil)))))) (jw_or1 (jt_not (jt_chain oj_le oj_le (je_int) (je_callB (cj_len) M.z_len bt_len (ja_cons (je_v 0) (ja_nil))) (je_gint (M.c_MAX_LETTERS.choose_spec))))))) (jb_one (js_ret (je_bl))) (jb_nil)) (jb_one (js_ret (je_callB (cj_all rfl) M.z_all bt_all (ja_cons (je_lc (own := [("sign", 1)]) (ix := [1]) rfl sc_is_name.nd (ji_of (je_v 0)) (blkOk_by (by with_unfolding_all rfl)) (by decide) (fun _ _ _ _ _ => by exact jg_n sc_is_name.nd rfl (by first | exact Or.inl rfl | exact Or.inr rfl)) (fun _ _ _ _ _ => by exact jts_nil) (fun _ _ _ _ _ => by exact je_cmp oj_in (je_v 1) (je_gstr (M.c_LOWERCASE.choose_spec)) (by rfl))) (ja_nil)))))
theorem b_is_integer (M : Mods K w mg)  : BodyG P w K mg base n 0 ["value"] "is_integer" (defScope st_is_integer) (defBody st_is_integer) m_is_integer := by
  intro f cd A outer s H E hr hg
  unfold m_is_integer
  exact jb_one (js_ret (je_and (je_callB (cj_isi) M.z_isinstance bt_isinstance (ja_cons (je_v 0) (ja_cons (je_ty M.z_int bt_int) (ja_nil)))) (je_one (je_not (je_callB (cj_isi) M.z_isinstance bt_isinstance (ja_cons (je_v 0) (ja_cons (je_ty M.z_bool bt_bool) (ja_nil))))))))
theorem b_is_between (M : Mods K w mg) (d_is_integer : DefG P w K mg base n 1 "is_integer" ["value"] [] f_is_integer) : BodyG P w K mg base n 1 ["value", "least", "most"] "is_between" (defScope st_is_between) (defBody st_is_between) m_is_between := by
  intro f cd A outer s H E hr hg
  unfold m_is_between
  exact jb_one (js_ret (je_and (je_call (k := 1) d_is_integer (by exact hr.mono (by decide)) (by exact hg) tk_b (ja_cons (je_v 0) (ja_nil))) (je_one (je_chain oj_le oj_le (je_v 1) (je_v 0) (je_v 2)))))
theorem b_are_slownesses (M : Mods K w mg) (d_is_name : DefG P w K mg base n 1 "is_name" ["value"] [] f_is_name) (d_is_between : DefG P w K mg base n 2 "is_between" ["value", "least", "most"] [] f_is_between) : BodyG P w K mg base n 2 ["value", "part"] "are_slownesses" (defScope st_are_slownesses) (defBody st_are_slownesses) m_are_slownesses := by
  intro f cd A outer s H E hr hg
  unfold m_are_slownesses
  exact jb_cons (js_if (jt_not (jt_tru (je_callB (cj_isi) M.z_isinstance bt_isinstance (ja_cons (je_v 0) (ja_cons (je_ty M.z_dict bt_dict) (ja_nil)))))) (jb_one (js_ret (je_bl))) (jb_nil)) (jb_one (js_ret (je_callB (cj_all rfl) M.z_all bt_all (ja_cons (je_lockE 0 (je_lc (own := [("part", 1)]) (ix := [1]) rfl sc_are_slownesses.nd (ji_keys (je_v 0)) (blkOk_by (by with_unfolding_all rfl)) (by decide) (fun _ _ _ _ _ => by exact jg_n sc_are_slownesses.nd rfl (by first | exact Or.inl rfl | exact Or.inr rfl)) (fun _ _ _ _ _ => by exact jts_nil) (fun _ _ _ _ _ => by exact je_and (by exact je_call (k := 1) d_is_name (by exact hr.mono (by decide)) (by exact hg) LamX.takes0 (ja_cons (je_v 1) (ja_nil))) (je_one (by exact je_call (k := 2) d_is_between (by exact hr.mono (by decide)) (by exact hg) LamX.takes0 (ja_cons (je_dix (by exact un1 hr) (je_v 0) (je_v 1)) (ja_cons (je_int) (ja_cons (je_gint (M.c_MAX_SLOWNESS.choose_spec)) (ja_nil))))))))) (ja_nil)))))
theorem b_Setting_init (M : Mods K w mg) (d_are_slownesses : DefG P w K mg base n 3 "are_slownesses" ["value"] [] f_are_slownesses) : BodyG P w K mg base n 3 ["self", "slownesses", "rule", "given", "part"] "Setting.__init__" (defScope st_Setting_init) (defBody st_Setting_init) m_Setting_init := by
  intro f cd A outer s H E hr hg
  unfold m_Setting_init
  exact jb_cons (js_if (jt_bool (jw_and (jt_cmp oj_isNot (je_v 1) (je_non) (by rfl)) (jw_and1 (jt_not (jt_tru (je_call (k := 3) d_are_slownesses (by exact hr.mono (by decide)) (by exact hg) tk_b (ja_cons (je_v 1) (ja_nil)))))))) (jb_one (js_raise rfl tk_b (PySem.OwnEx.makes_of PySem.F.excBase_Exception) PySem.F.store_Exception M.x_InvalidSetting.choose_spec.choose_spec (by exact hr) (je_v 1))) (jb_nil)) (jb_cons (js_if (jt_bool (jw_or (jt_not (jt_tru (je_callB (cj_isi) M.z_isinstance bt_isinstance (ja_cons (je_v 2) (ja_cons (je_ty M.z_str bt_str) (ja_nil)))))) (jw_or1 (jt_cmp oj_notIn (je_v 2) (je_gtup M.c_RULES.choose_spec.1 M.c_RULES.choose_spec.2) (by rfl))))) (jb_one (js_raise rfl tk_b (PySem.OwnEx.makes_of PySem.F.excBase_Exception) PySem.F.store_Exception M.x_InvalidSetting.choose_spec.choose_spec (by exact hr) (je_v 2))) (jb_nil)) (jb_cons (js_set sc_Setting_init.nd rfl (by first | exact Or.inl rfl | exact Or.inr rfl) (je_if (jt_cmp oj_is (je_v 1) (je_non) (by rfl)) (je_dis0) (je_v 1))) (jb_cons (js_fld M.K_Setting.choose_spec (M.n_Setting_own_slownesses _ M.K_Setting.choose_spec.gC) (je_frz (je_lockE 3 (je_dc (own := [("part", 4)]) (ix := [4]) rfl sc_Setting_init.nd (ji_of (je_callB (cj_sortedD rfl) M.z_sorted bt_sorted (ja_cons (je_v 3) (ja_nil)))) (blkOk_by (by with_unfolding_all rfl)) (by decide) (fun _ _ _ _ _ => by exact jg_n sc_Setting_init.nd rfl (by first | exact Or.inl rfl | exact Or.inr rfl)) (fun _ _ _ _ _ => by exact jts_one (jt_cmp (oj_ne (by exact hr.units)) (je_dix (by exact un1 hr) (je_v 3) (je_v 4)) (je_gint (M.c_USUAL_SLOWNESS.choose_spec)) (by rfl))) (fun _ _ _ _ _ => by exact je_v 4) (fun _ _ _ _ _ => by exact je_dix (by exact un1 hr) (je_v 3) (je_v 4))))) (je_v 0)) (jb_one (js_fld M.K_Setting.choose_spec (M.n_Setting_own_rule _ M.K_Setting.choose_spec.gC) (je_v 2) (je_v 0))))))
theorem b_Setting_slowness (M : Mods K w mg) (d_is_name : DefG P w K mg base n 1 "is_name" ["value"] [] f_is_name) : BodyG P w K mg base n 1 ["self", "part"] "Setting.slowness" (defScope st_Setting_slowness) (defBody st_Setting_slowness) m_Setting_slowness := by
  intro f cd A outer s H E hr hg
  unfold m_Setting_slowness
  exact jb_cons (js_if (jt_not (jt_tru (je_call (k := 1) d_is_name (by exact hr.mono (by decide)) (by exact hg) tk_b (ja_cons (je_v 1) (ja_nil))))) (jb_one (js_raise rfl tk_b PySem.OwnEx.makes_KeyError PySem.OwnEx.store_KeyError M.x_UnknownName.choose_spec.choose_spec (by exact hr) (je_v 1))) (jb_nil)) (jb_one (js_ret (je_getD (by exact un1 hr) (je_fld M.K_Setting.choose_spec (M.n_Setting_own_slownesses _ M.K_Setting.choose_spec.gC) (je_v 0)) (je_v 1) (je_gint (M.c_USUAL_SLOWNESS.choose_spec)))))
theorem b_Setting_rule (M : Mods K w mg)  : BodyG P w K mg base n 0 ["self"] "Setting.rule" (defScope st_Setting_rule) (defBody st_Setting_rule) m_Setting_rule := by
  intro f cd A outer s H E hr hg
  unfold m_Setting_rule
  exact jb_one (js_ret (je_fld M.K_Setting.choose_spec (M.n_Setting_own_rule _ M.K_Setting.choose_spec.gC) (je_v 0)))
theorem b_Setting_with_slowness (M : Mods K w mg) (d_is_name : DefG P w K mg base n 1 "is_name" ["value"] [] f_is_name) (d_is_between : DefG P w K mg base n 2 "is_between" ["value", "least", "most"] [] f_is_between) (d_Setting_init_k1 : MkGK P w K mg base n 4 "Setting" ["self", "slownesses", "rule"] ["rule"] 1 [] f_Setting_init) : BodyG P w K mg base n 5 ["self", "part", "slowness"] "Setting.with_slowness" (defScope st_Setting_with_slowness) (defBody st_Setting_with_slowness) m_Setting_with_slowness := by
  intro f cd A outer s H E hr hg
  unfold m_Setting_with_slowness
  exact jb_cons (js_if (jt_not (jt_tru (je_call (k := 1) d_is_name (by exact hr.mono (by decide)) (by exact hg) tk_b (ja_cons (je_v 1) (ja_nil))))) (jb_one (js_raise rfl tk_b PySem.OwnEx.makes_KeyError PySem.OwnEx.store_KeyError M.x_UnknownName.choose_spec.choose_spec (by exact hr) (je_v 1))) (jb_nil)) (jb_cons (js_if (jt_not (jt_tru (je_call (k := 2) d_is_between (by exact hr.mono (by decide)) (by exact hg) tk_b (ja_cons (je_v 2) (ja_cons (je_int) (ja_cons (je_gint (M.c_MAX_SLOWNESS.choose_spec)) (ja_nil))))))) (jb_one (js_raise rfl tk_b (PySem.OwnEx.makes_of PySem.F.excBase_Exception) PySem.F.store_Exception M.x_InvalidSetting.choose_spec.choose_spec (by exact hr) (je_v 2))) (jb_nil)) (jb_one (js_ret (je_frz (je_makeK (k := 4) d_Setting_init_k1 (by exact hr.mono (by decide)) (by exact hg) tk_b (ja_cons (je_star (je_fld M.K_Setting.choose_spec (M.n_Setting_own_slownesses _ M.K_Setting.choose_spec.gC) (je_v 0)) (jps_cons (je_v 1) (je_v 2) (jps_nil))) (ja_nil)) (jk_cons (je_fld M.K_Setting.choose_spec (M.n_Setting_own_rule _ M.K_Setting.choose_spec.gC) (je_v 0)) (jk_nil)))))))
theorem b_Setting_eq (M : Mods K w mg)  : BodyG P w K mg base n 0 ["self", "other"] "Setting.__eq__" (defScope st_Setting_eq) (defBody st_Setting_eq) m_Setting_eq := by
  intro f cd A outer s H E hr hg
  unfold m_Setting_eq
  exact jb_cons (js_if (jt_not (jt_tru (je_callB (cj_isC M.Q_Setting) M.z_isinstance bt_isinstance (ja_cons (je_v 1) (ja_cons (je_gref M.Q_Setting.choose_spec.1.gC) ja_nil))))) (jb_one (js_ret (je_bl))) (jb_nil)) (jb_one (js_ret (je_and (je_cmp (oj_eq (by exact hr.units)) (je_fld M.K_Setting.choose_spec (M.n_Setting_own_rule _ M.K_Setting.choose_spec.gC) (je_v 0)) (je_fld M.K_Setting.choose_spec (M.n_Setting_own_rule _ M.K_Setting.choose_spec.gC) (je_v 1)) (by rfl)) (je_one (je_cmp (oj_deq (by exact hr.units)) (je_fld M.K_Setting.choose_spec (M.n_Setting_own_slownesses _ M.K_Setting.choose_spec.gC) (je_v 0)) (je_fld M.K_Setting.choose_spec (M.n_Setting_own_slownesses _ M.K_Setting.choose_spec.gC) (je_v 1)) (by rfl))))))
theorem b__law_right (M : Mods K w mg) (d__law_draw : DefG P w K mg base n 1 "_law_draw" ["_law_state", "_law_many"] [] f__law_draw) (d__law_slow : DefG P w K mg base n 2 "_law_slow" ["_law_state"] [] f__law_slow) (d_Setting_init_k1 : MkGK P w K mg base n 4 "Setting" ["self", "slownesses", "rule"] ["rule"] 1 [] f_Setting_init) (d_Setting_slowness : MethG P w K mg base n 2 "Setting" "slowness" ["self", "part"] [] f_Setting_slowness) (d_Setting_rule : PropG P w K mg base n 1 "Setting" "rule" f_Setting_rule) (d_Setting_with_slowness : MethG P w K mg base n 6 "Setting" "with_slowness" ["self", "part", "slowness"] [] f_Setting_with_slowness) (d_Setting_eq : MethG P w K mg base n 1 "Setting" "__eq__" ["self", "other"] [] f_Setting_eq) : BodyG P w K mg base n 6 ["_law_state", "_law_handed", "_law_setting", "_law_parts", "_law_told", "_law_turn", "_law_turned", "_law_other", "_law_slow_here", "_law_order", "_law_later", "_law_part", "_law_number", "_law_value"] "_law_right" (defScope st__law_right) (defBody st__law_right) m__law_right := by
  intro f cd A outer s H E hr hg
  unfold m__law_right
  exact jb_cons (js_asg (je_tup (ja_cons (je_call (k := 2) d__law_slow (by exact hr.mono (by decide)) (by exact hg) tk_b (ja_cons (je_v 0) (ja_nil))) (ja_cons (je_ix (je_lst (ja_cons (je_str) (ja_cons (je_str) (ja_nil)))) (je_call (k := 1) d__law_draw (by exact hr.mono (by decide)) (by exact hg) tk_b (ja_cons (je_v 0) (ja_cons (je_int) (ja_nil)))) (fun _ _ => rfl)) (ja_nil)))) (jg_tup rfl (jgs_cons (jg_n sc__law_right.nd rfl (by first | exact Or.inl rfl | exact Or.inr rfl)) (jgs_cons (jg_n sc__law_right.nd rfl (by first | exact Or.inl rfl | exact Or.inr rfl)) (jgs_nil))))) (jb_cons (js_set sc__law_right.nd rfl (by first | exact Or.inl rfl | exact Or.inr rfl) (je_callTyN (cj_dict rfl) M.z_dict bt_dict (ja_cons (je_v 8) (ja_nil)))) (jb_cons (js_set sc__law_right.nd rfl (by first | exact Or.inl rfl | exact Or.inr rfl) (je_frz (je_makeK (k := 4) d_Setting_init_k1 (by exact hr.mono (by decide)) (by exact hg) tk_b (ja_cons (je_v 1) (ja_nil)) (jk_cons (je_v 9) (jk_nil))))) (jb_cons (js_dput (by exact un1 hr) (je_v 1) (je_str) (je_int)) (jb_cons (js_set sc__law_right.nd rfl (by first | exact Or.inl rfl | exact Or.inr rfl) (je_lst (ja_cons (je_str) (ja_cons (je_str) (ja_cons (je_str) (ja_cons (je_str) (ja_cons (je_str) (ja_nil)))))))) (jb_cons (js_setLc rfl rfl (by rfl) (own := [("_law_part", 11)]) (ix := [11]) rfl sc__law_right.nd (ji_of (je_v 3)) (blkOk_by (by with_unfolding_all rfl)) (by decide) (fun _ _ _ _ _ => by exact jg_n sc__law_right.nd rfl (by first | exact Or.inl rfl | exact Or.inr rfl)) (fun _ _ _ _ _ => by exact jts_nil) (fun _ _ _ _ _ => by exact je_meth (k := 2) d_Setting_slowness (by exact hr.mono (by decide)) (by exact hg) LamX.takes0 (je_v 2) (ja_cons (je_v 11) (ja_nil)))) (jb_cons (js_if (jt_bool (jw_or (jt_cmp (oj_ne (by exact hr.units)) (je_prop (k := 1) d_Setting_rule (by exact hr.mono (by decide)) (by exact hg) (je_v 2)) (je_v 9) (by rfl)) (jw_or1 (jt_cmp (oj_ne (by exact hr.units)) (je_v 4) (je_lc (own := [("_law_part", 11)]) (ix := [11]) rfl sc__law_right.nd (ji_of (je_v 3)) (blkOk_by (by with_unfolding_all rfl)) (by decide) (fun _ _ _ _ _ => by exact jg_n sc__law_right.nd rfl (by first | exact Or.inl rfl | exact Or.inr rfl)) (fun _ _ _ _ _ => by exact jts_nil) (fun _ _ _ _ _ => by exact je_getD (by exact un1 hr) (je_v 8) (je_v 11) (je_int))) (by rfl))))) (jb_one (js_ret (je_bl))) (jb_nil)) (jb_cons (js_for ps_b rfl (ji_rg1 (ja_cons (je_int) (ja_nil)) M.z_range) (jg_n sc__law_right.nd rfl (by first | exact Or.inl rfl | exact Or.inr rfl)) (jb_cons (js_par rfl sc__law_right.nd rfl rfl (by decide) rfl rfl (je_ix (je_v 3) (je_call (k := 1) d__law_draw (by exact hr.mono (by decide)) (by exact hg) tk_b (ja_cons (je_v 0) (ja_cons (je_int) (ja_nil)))) (fun _ _ => rfl)) (je_ix (je_lst (ja_cons (je_int) (ja_cons (je_int) (ja_cons (je_op oj_pow (je_int) (je_int)) (ja_cons (je_call (k := 1) d__law_draw (by exact hr.mono (by decide)) (by exact hg) tk_b (ja_cons (je_v 0) (ja_cons (je_int) (ja_nil)))) (ja_nil)))))) (je_call (k := 1) d__law_draw (by exact hr.mono (by decide)) (by exact hg) tk_b (ja_cons (je_v 0) (ja_cons (je_int) (ja_nil)))) (fun _ _ => rfl)) (by rfl)) (jb_cons (js_set sc__law_right.nd rfl (by first | exact Or.inl rfl | exact Or.inr rfl) (je_meth (k := 6) d_Setting_with_slowness (by exact hr.mono (by decide)) (by exact hg) tk_b (je_v 2) (ja_cons (je_v 11) (ja_cons (je_v 12) (ja_nil))))) (jb_cons (js_if (jt_bool (jw_or (jt_cmp (oj_ne (by exact hr.units)) (je_meth (k := 2) d_Setting_slowness (by exact hr.mono (by decide)) (by exact hg) tk_b (je_v 10) (ja_cons (je_v 11) (ja_nil))) (je_v 12) (by rfl)) (jw_or (jt_cmp (oj_ne (by exact hr.units)) (je_prop (k := 1) d_Setting_rule (by exact hr.mono (by decide)) (by exact hg) (je_v 10)) (je_v 9) (by rfl)) (jw_or1 (jt_cmp (oj_ne (by exact hr.units)) (je_meth (k := 2) d_Setting_slowness (by exact hr.mono (by decide)) (by exact hg) tk_b (je_v 2) (ja_cons (je_v 11) (ja_nil))) (je_getD (by exact un1 hr) (je_v 8) (je_v 11) (je_int)) (by rfl)))))) (jb_one (js_ret (je_bl))) (jb_nil)) (jb_cons (js_if (jt_cmp (oj_ne (by exact hr.units)) (je_eqC (k := 1) M.Q_Setting d_Setting_eq M.N_Setting (by exact hr.mono (by decide)) (by exact hg) (je_v 10) (je_v 2)) (je_cmp (oj_eq (by exact hr.units)) (je_getD (by exact un1 hr) (je_v 8) (je_v 11) (je_int)) (je_v 12) (by rfl)) (by rfl)) (jb_one (js_ret (je_bl))) (jb_nil)) (jb_one (js_asg (je_tup (ja_cons (je_v 10) (ja_cons (je_frz (je_callTyN (cj_dict rfl) M.z_dict bt_dict (ja_cons (je_op oj_add (je_items rfl (je_v 8) M.z_list bt_list) (je_lst (ja_cons (je_tup (ja_cons (je_v 11) (ja_cons (je_v 12) (ja_nil)))) (ja_nil)))) (ja_nil)))) (ja_nil)))) (jg_tup rfl (jgs_cons (jg_n sc__law_right.nd rfl (by first | exact Or.inl rfl | exact Or.inr rfl)) (jgs_cons (jg_n sc__law_right.nd rfl (by first | exact Or.inl rfl | exact Or.inr rfl)) (jgs_nil))))))))))) (jb_cons (js_set sc__law_right.nd rfl (by first | exact Or.inl rfl | exact Or.inr rfl) (je_frz (je_callTyN (cj_dict rfl) M.z_dict bt_dict (ja_cons (je_op oj_add (je_rev (je_items rfl (je_v 8) M.z_list bt_list)) (je_lst (ja_cons (je_tup (ja_cons (je_str) (ja_cons (je_int) (ja_nil)))) (ja_nil)))) (ja_nil))))) (jb_cons (js_if (jt_bool (jw_or (jt_not (jt_eqC (k := 1) M.Q_Setting d_Setting_eq M.N_Setting (by exact hr.mono (by decide)) (by exact hg) (je_v 2) (je_frz (je_makeK (k := 4) d_Setting_init_k1 (by exact hr.mono (by decide)) (by exact hg) tk_b (ja_cons (je_v 6) (ja_nil)) (jk_cons (je_v 9) (jk_nil)))))) (jw_or1 (jt_neC (k := 1) M.Q_Setting d_Setting_eq M.N_Setting (by exact hr.mono (by decide)) (by exact hg) (je_v 2) (je_frz (je_makeK (k := 4) d_Setting_init_k1 (by exact hr.mono (by decide)) (by exact hg) tk_b (ja_cons (je_v 6) (ja_nil)) (jk_cons (je_v 9) (jk_nil)))))))) (jb_one (js_ret (je_bl))) (jb_nil)) (jb_cons (js_set sc__law_right.nd rfl (by first | exact Or.inl rfl | exact Or.inr rfl) (je_frz (je_makeK (k := 4) d_Setting_init_k1 (by exact hr.mono (by decide)) (by exact hg) tk_b (ja_cons (je_v 8) (ja_nil)) (jk_cons (je_ix (je_lst (ja_cons (je_str) (ja_cons (je_str) (ja_nil)))) (je_callTy cj_int M.z_int bt_int (ja_cons (je_cmp (oj_eq (by exact hr.units)) (je_v 9) (je_str) (by rfl)) (ja_nil))) (fun _ _ => rfl)) (jk_nil))))) (jb_cons (js_if (jt_eqC (k := 1) M.Q_Setting d_Setting_eq M.N_Setting (by exact hr.mono (by decide)) (by exact hg) (je_v 2) (je_v 7)) (jb_one (js_ret (je_bl))) (jb_nil)) (jb_one (js_ret (je_cmp (oj_eq (by exact hr.units)) (je_lc (own := [("_law_value", 13)]) (ix := [13]) rfl sc__law_right.nd (ji_of (je_lst (ja_cons (je_non) (ja_cons (je_v 8) (ja_cons (je_v 9) (ja_cons (je_int) (ja_nil))))))) (blkOk_by (by with_unfolding_all rfl)) (by decide) (fun _ _ _ _ _ => by exact jg_n sc__law_right.nd rfl (by first | exact Or.inl rfl | exact Or.inr rfl)) (fun _ _ _ _ _ => by exact jts_one (jt_eqC (k := 1) M.Q_Setting d_Setting_eq M.N_Setting (by exact hr.mono (by decide)) (by exact hg) (je_v 2) (je_v 13))) (fun _ _ _ _ _ => by exact je_v 13)) (je_lst (ja_nil)) (by rfl)))))))))))))))
theorem b__law_odd_right (M : Mods K w mg) (d_Setting_init_k1 : MkGK P w K mg base n 4 "Setting" ["self", "slownesses", "rule"] ["rule"] 1 [] f_Setting_init) (d_Setting_init_1 : MkG P w K mg base n 4 "Setting" ["self", "slownesses", "rule"] [.non, (.str "turn")] f_Setting_init) (d_Setting_with_slowness : MethG P w K mg base n 6 "Setting" "with_slowness" ["self", "part", "slowness"] [] f_Setting_with_slowness) (d_Setting_eq : MethG P w K mg base n 1 "Setting" "__eq__" ["self", "other"] [] f_Setting_eq) (d_Setting_init_2 : MkG P w K mg base n 4 "Setting" ["self", "slownesses", "rule"] [(.str "turn")] f_Setting_init) (d_Setting_init_k0 : MkGK P w K mg base n 4 "Setting" ["self", "slownesses", "rule"] ["rule"] 0 [.non] f_Setting_init) (d_Setting_rule : PropG P w K mg base n 1 "Setting" "rule" f_Setting_rule) (d__law_heard : ∀ k, ToldL P w K mg base n k "_law_heard" 2 cl__law_heard) {c Pt : Addr} (TB : LamX.TabB base mg c Pt) (hm : (Pt, ("_law_odd_right" ++ ".<locals>." ++ "<lambda>" : Str)) ∈ lamT K) (hu : ∀ p ∈ lamT K, p.1 = Pt → p.2 = ("_law_odd_right" ++ ".<locals>." ++ "<lambda>" : Str)) : BodyL P w K mg base n 8 ["_law_odd"] "_law_odd_right" (defScope st__law_odd_right) (defBody st__law_odd_right) m__law_odd_right c := by
  intro f A outer s H E hr hg
  unfold m__law_odd_right
  exact jb_cons (js_for ps_b rfl (ji_of (je_lst (ja_cons (je_int) (ja_cons (je_str) (ja_cons (je_lst (ja_nil)) (ja_cons (je_tup (ja_cons (je_str) (ja_nil))) (ja_cons (je_dis (jps_cons (je_str) (je_int) (jps_nil))) (ja_cons (je_dis (jps_cons (je_str) (je_neg (je_int)) (jps_nil))) (ja_cons (je_dis (jps_cons (je_str) (je_op oj_add (je_op oj_pow (je_int) (je_int)) (je_int)) (jps_nil))) (ja_cons (je_dis (jps_cons (je_str) (je_bl) (jps_nil))) (ja_cons (je_dis (jps_cons (je_str) (je_non) (jps_nil))) (ja_cons (je_dis (jps_cons (je_int) (je_int) (jps_nil))) (ja_cons (je_dis (jps_cons (je_str) (je_int) (jps_nil))) (ja_nil)))))))))))))) (jg_n sc__law_odd_right.nd rfl (by first | exact Or.inl rfl | exact Or.inr rfl)) (jb_one (js_if (jt_cmp (oj_ne (by exact hr.units)) (je_lamL (k := 5) (d__law_heard 6) TB rfl (by exact hm) (by exact hu) (by exact hr.mono (by decide)) (by exact hg) (LamX.lamS_by (by show LamX.lamSB (defScope st__law_odd_right) _ = true; decide +kernel)) rfl (fun _ _ _ _ _ => rfl) (fun A outer s H E f c hr hg => by exact je_frz (je_makeK (k := 4) d_Setting_init_k1 (by exact hr.mono (by decide)) (by exact hg) (takes_of rfl rfl rfl rfl) (ja_cons (je_v 0) (ja_nil)) (jk_cons (je_non) (jk_nil))))) (je_lst (ja_cons (je_str) (ja_cons (je_callB (cj_repr (by exact hg) (by exact hr.units)) M.z_repr bt_repr (ja_cons (je_v 0) (ja_nil))) (ja_cons (je_bl) (ja_nil))))) (by rfl)) (jb_one (js_ret (je_bl))) (jb_nil)))) (jb_cons (js_for ps_b rfl (ji_of (je_lst (ja_cons (je_non) (ja_cons (je_str) (ja_cons (je_str) (ja_cons (je_int) (ja_cons (je_lst (ja_cons (je_str) (ja_nil))) (ja_cons (je_tup (ja_cons (je_str) (ja_nil))) (ja_cons (je_bl) (ja_nil)))))))))) (jg_n sc__law_odd_right.nd rfl (by first | exact Or.inl rfl | exact Or.inr rfl)) (jb_one (js_if (jt_cmp (oj_ne (by exact hr.units)) (je_lamL (k := 5) (d__law_heard 6) TB rfl (by exact hm) (by exact hu) (by exact hr.mono (by decide)) (by exact hg) (LamX.lamS_by (by show LamX.lamSB (defScope st__law_odd_right) _ = true; decide +kernel)) rfl (fun _ _ _ _ _ => rfl) (fun A outer s H E f c hr hg => by exact je_frz (je_makeK (k := 4) d_Setting_init_k1 (by exact hr.mono (by decide)) (by exact hg) (takes_of rfl rfl rfl rfl) (ja_cons (je_dis (jps_cons (je_str) (je_int) (jps_nil))) (ja_nil)) (jk_cons (je_v 0) (jk_nil))))) (je_lst (ja_cons (je_str) (ja_cons (je_callB (cj_repr (by exact hg) (by exact hr.units)) M.z_repr bt_repr (ja_cons (je_v 0) (ja_nil))) (ja_cons (je_bl) (ja_nil))))) (by rfl)) (jb_one (js_ret (je_bl))) (jb_nil)))) (jb_cons (js_for ps_b rfl (ji_of (je_lst (ja_cons (je_non) (ja_cons (je_str) (ja_cons (je_str) (ja_cons (je_int) (ja_cons (je_lst (ja_cons (je_str) (ja_nil))) (ja_cons (je_str) (ja_nil))))))))) (jg_n sc__law_odd_right.nd rfl (by first | exact Or.inl rfl | exact Or.inr rfl)) (jb_one (js_if (jt_cmp (oj_ne (by exact hr.units)) (je_lamL (k := 6) (d__law_heard 7) TB rfl (by exact hm) (by exact hu) (by exact hr.mono (by decide)) (by exact hg) (LamX.lamS_by (by show LamX.lamSB (defScope st__law_odd_right) _ = true; decide +kernel)) rfl (fun _ _ _ _ _ => rfl) (fun A outer s H E f c hr hg => by exact je_meth (k := 6) d_Setting_with_slowness (by exact hr.mono (by decide)) (by exact hg) (takes_of rfl rfl rfl rfl) (je_frz (je_make0 (k := 4) d_Setting_init_1 (by exact hr.mono (by decide)) (by exact hg) (takes_of rfl rfl rfl rfl))) (ja_cons (je_v 0) (ja_cons (je_non) (ja_nil))))) (je_lst (ja_cons (je_str) (ja_cons (je_callB (cj_repr (by exact hg) (by exact hr.units)) M.z_repr bt_repr (ja_cons (je_v 0) (ja_nil))) (ja_nil)))) (by rfl)) (jb_one (js_ret (je_bl))) (jb_nil)))) (jb_cons (js_for ps_b rfl (ji_of (je_lst (ja_cons (je_non) (ja_cons (je_neg (je_int)) (ja_cons (je_op oj_add (je_op oj_pow (je_int) (je_int)) (je_int)) (ja_cons (je_bl) (ja_cons (je_str) (ja_cons (je_tup (ja_cons (je_int) (ja_cons (je_int) (ja_nil)))) (ja_nil))))))))) (jg_n sc__law_odd_right.nd rfl (by first | exact Or.inl rfl | exact Or.inr rfl)) (jb_one (js_if (jt_cmp (oj_ne (by exact hr.units)) (je_lamL (k := 6) (d__law_heard 7) TB rfl (by exact hm) (by exact hu) (by exact hr.mono (by decide)) (by exact hg) (LamX.lamS_by (by show LamX.lamSB (defScope st__law_odd_right) _ = true; decide +kernel)) rfl (fun _ _ _ _ _ => rfl) (fun A outer s H E f c hr hg => by exact je_meth (k := 6) d_Setting_with_slowness (by exact hr.mono (by decide)) (by exact hg) (takes_of rfl rfl rfl rfl) (je_frz (je_make0 (k := 4) d_Setting_init_1 (by exact hr.mono (by decide)) (by exact hg) (takes_of rfl rfl rfl rfl))) (ja_cons (je_str) (ja_cons (je_v 0) (ja_nil))))) (je_lst (ja_cons (je_str) (ja_cons (je_callB (cj_repr (by exact hg) (by exact hr.units)) M.z_repr bt_repr (ja_cons (je_v 0) (ja_nil))) (ja_cons (je_bl) (ja_nil))))) (by rfl)) (jb_one (js_ret (je_bl))) (jb_nil)))) (jb_one (js_ret (je_and (je_eqC (k := 1) M.Q_Setting d_Setting_eq M.N_Setting (by exact hr.mono (by decide)) (by exact hg) (je_frz (je_make0 (k := 4) d_Setting_init_1 (by exact hr.mono (by decide)) (by exact hg) tk_b)) (je_frz (je_make (k := 4) d_Setting_init_2 (by exact hr.mono (by decide)) (by exact hg) tk_b (ja_cons (je_dis0) (ja_nil))))) (je_and (je_eqC (k := 1) M.Q_Setting d_Setting_eq M.N_Setting (by exact hr.mono (by decide)) (by exact hg) (je_frz (je_make (k := 4) d_Setting_init_2 (by exact hr.mono (by decide)) (by exact hg) tk_b (ja_cons (je_non) (ja_nil)))) (je_frz (je_makeK0 (k := 4) d_Setting_init_k0 (by exact hr.mono (by decide)) (by exact hg) tk_b (jk_cons (je_str) (jk_nil))))) (je_one (je_cmp (oj_eq (by exact hr.units)) (je_prop (k := 1) d_Setting_rule (by exact hr.mono (by decide)) (by exact hg) (je_frz (je_make0 (k := 4) d_Setting_init_1 (by exact hr.mono (by decide)) (by exact hg) tk_b))) (je_str) (by rfl))))))))))
theorem b_law (M : Mods K w mg) (d__law_numbers : DefG P w K mg base n 1 "_law_numbers" ["_law_cell", "_law_salt", "_law_sizes"] [] f__law_numbers) (d__law_right : DefG P w K mg base n 7 "_law_right" ["_law_state"] [] f__law_right) (d__law_odd_right : DefG P w K mg base n 9 "_law_odd_right" [] [] f__law_odd_right) : BodyG P w K mg base n 9 ["_law_script", "_law_k", "_law_cell", "_law_state"] "law" (defScope st_law) (defBody st_law) m_law := by
  intro f cd A outer s H E hr hg
  unfold m_law
  exact jb_cons (js_for ps_b rfl (ji_en (ja_cons (je_op oj_add (je_sl (je_v 0) (jo_none) (jo_some (je_int))) (je_op oj_mul (je_lst (ja_cons (je_int) (ja_nil))) (je_callTy cj_int M.z_int bt_int (ja_cons (je_cmp (oj_eq (by exact hr.units)) (je_v 0) (je_lst (ja_nil)) (by rfl)) (ja_nil))))) (ja_nil)) M.z_enumerate) (jg_tup rfl (jgs_cons (jg_n sc_law.nd rfl (by first | exact Or.inl rfl | exact Or.inr rfl)) (jgs_cons (jg_n sc_law.nd rfl (by first | exact Or.inl rfl | exact Or.inr rfl)) (jgs_nil)))) (jb_cons (js_own sc_law.nd rfl (by first | exact Or.inl rfl | exact Or.inr rfl) (ja_cons (je_call (k := 1) d__law_numbers (by exact hr.mono (by decide)) (by exact hg) tk_b (ja_cons (je_v 2) (ja_cons (je_op oj_add (je_int) (je_v 1)) (ja_cons (je_op oj_mul (je_lst (ja_cons (je_int) (ja_nil))) (je_int)) (ja_nil))))) (ja_cons (je_int) (ja_nil)))) (jb_cell (jb_one (js_if (jt_bool (jw_or (jt_not (jt_tru (je_call (k := 7) d__law_right (by exact hr.mono (by decide)) (by exact hg) tk_b (ja_cons (je_v 3) (ja_nil))))) (jw_or1 (jt_not (jt_tru (je_call0 (k := 9) d__law_odd_right (by exact hr.mono (by decide)) (by exact hg) tk_b)))))) (jb_one (js_ret (je_bl))) (jb_nil)))))) (jb_one (js_ret (je_bl)))
end
end K09

set_option Elab.async false
set_option linter.all false
set_option autoImplicit false
set_option maxRecDepth 100000
set_option maxHeartbeats 4000000
/-! SLMap: dicts from texts to whole numbers, as lists of pairs. -/
namespace SL
open PySem PySem.Spec L2
open PyProof.Rows hiding St
abbrev SI := List (Str × Int)
def kvI (m : SI) : List (Key × IV) := m.map fun p => (.inr p.1, .int p.2)
def dS (m : SI) : IV := .dct (m.map fun p => .inr p.1) (m.map fun p => .int p.2)
def lS : SI → Str → Option Int
  | [], _ => none
  | p :: m, s => if p.1 = s then some p.2 else lS m s
def gS (m : SI) (s : Str) : Int := (lS m s).getD 1
def pS (m : SI) (s : Str) (v : Int) : SI := if (m.any fun p => decide (p.1 = s)) = true then m.map (fun p => if p.1 = s then (p.1, v) else p) else m ++ [(s, v)]
def kS (m : SI) : List Str := m.map (·.1)
theorem dS_kv {m : SI} : dS m = .dct ((kvI m).map (·.1)) ((kvI m).map (·.2)) := by simp [dS, kvI, Function.comp_def]
theorem zip_kv : ∀ {m : SI}, (m.map fun p => (Sum.inr p.1 : Key)).zip (m.map fun p => IV.int p.2) = kvI m
  | [] => rfl
  | p :: m => by simp only [List.map_cons, List.zip_cons_cons, zip_kv, kvI]
theorem zip_map {α β : Type} : ∀ (l : List (α × β)), (l.map (·.1)).zip (l.map (·.2)) = l
  | [] => rfl
  | p :: l => by rw [List.map_cons, List.map_cons, List.zip_cons_cons, zip_map l]
theorem valG_kv : ∀ {m : SI} {s : Str}, valG (kvI m) (.inr s) = (lS m s).map .int
  | [], s => rfl
  | p :: m, s => by
    have ih := valG_kv (m := m) (s := s)
    unfold valG at ih ⊢
    unfold kvI lS
    rw [List.map_cons, List.find?_cons]
    by_cases h : p.1 = s
    · simp [h]
    · have : ¬ (Sum.inr p.1 : Key) = Sum.inr s := fun z => h (Sum.inr.inj z)
      simp only [this, decide_false, h, if_false]
      exact ih
theorem lS_mem : ∀ {m : SI} {s : Str} {v : Int}, lS m s = some v → (s, v) ∈ m
  | [], s, v, h => by cases h
  | p :: m, s, v, h => by
    unfold lS at h
    split at h
    · rename_i e
      cases h
      rw [← e]
      exact List.mem_cons_self
    · exact List.mem_cons_of_mem _ (lS_mem h)
theorem lS_of : ∀ {m : SI} {s : Str} {v : Int}, (kS m).Nodup → (s, v) ∈ m → lS m s = some v
  | [], s, v, _, h => by cases h
  | p :: m, s, v, hn, h => by
    unfold kS at hn
    rw [List.map_cons, List.nodup_cons] at hn
    unfold lS
    rcases List.mem_cons.mp h with e | e
    · rw [← e]; simp
    · rw [if_neg (fun z => hn.1 (by rw [z]; exact List.mem_map_of_mem e))]
      exact lS_of hn.2 e
theorem lS_none : ∀ {m : SI} {s : Str}, lS m s = none ↔ s ∉ kS m
  | [], s => by simp [lS, kS]
  | p :: m, s => by
    unfold lS kS
    rw [List.map_cons, List.mem_cons]
    by_cases h : p.1 = s
    · simp [h]
    · rw [if_neg h, lS_none]
      unfold kS
      simp [Ne.symm h, fun z : s = p.1 => h z.symm]
theorem any_kS {m : SI} {s : Str} : (m.any fun p => decide (p.1 = s)) = true ↔ s ∈ kS m := by
  unfold kS
  rw [List.any_eq_true, List.mem_map]
  exact ⟨fun ⟨p, h, e⟩ => ⟨p, h, of_decide_eq_true e⟩, fun ⟨p, h, e⟩ => ⟨p, h, decide_eq_true e⟩⟩
theorem lS_upd : ∀ {m : SI} {s t : Str} {v : Int}, s ∈ kS m → lS (m.map fun p => if p.1 = s then (p.1, v) else p) t = if t = s then some v else lS m t
  | [], s, t, v, h => by cases h
  | p :: m, s, t, v, h => by
    rw [List.map_cons]
    by_cases hp : p.1 = s
    · rw [if_pos hp]
      unfold lS
      dsimp only
      by_cases ht : t = s
      · rw [if_pos ht, if_pos (by rw [hp, ht])]
      · rw [if_neg ht, if_neg (fun z => ht (z.symm.trans hp)), if_neg (fun z => ht (z.symm.trans hp))]
        by_cases hm : s ∈ kS m
        · rw [lS_upd hm, if_neg ht]
        · have : (m.map fun p => if p.1 = s then (p.1, v) else p) = m := by
            refine (List.map_congr_left fun q hq => ?_).trans (List.map_id m)
            rw [if_neg (fun z => hm (by rw [← z]; exact List.mem_map_of_mem hq))]
            rfl
          rw [this]
    · rw [if_neg hp]
      have hm : s ∈ kS m := by
        rcases List.mem_cons.mp h with e | e
        · exact absurd e.symm hp
        · exact e
      unfold lS
      by_cases ht : p.1 = t
      · rw [if_pos ht, if_neg (fun z => hp (ht.trans z)), if_pos ht]
      · rw [if_neg ht, if_neg ht, lS_upd hm]
theorem lS_app : ∀ {m : SI} {s t : Str} {v : Int}, s ∉ kS m → lS (m ++ [(s, v)]) t = if t = s then some v else lS m t
  | [], s, t, v, _ => by
    rw [List.nil_append]
    unfold lS
    dsimp only
    by_cases h : t = s
    · rw [if_pos h, if_pos h.symm]
    · rw [if_neg (fun z => h z.symm), if_neg h]
      rfl
  | p :: m, s, t, v, hs => by
    have hp : p.1 ≠ s := fun z => hs (by rw [← z]; exact List.mem_cons_self)
    have hm : s ∉ kS m := fun z => hs (List.mem_cons_of_mem _ z)
    rw [List.cons_append]
    unfold lS
    by_cases ht : p.1 = t
    · rw [if_pos ht, if_neg (fun z => hp (ht.trans z)), if_pos ht]
    · rw [if_neg ht, if_neg ht, lS_app hm]
theorem lS_put {m : SI} {s t : Str} {v : Int} : lS (pS m s v) t = if t = s then some v else lS m t := by
  unfold pS
  by_cases h : s ∈ kS m
  · rw [if_pos (any_kS.mpr h), lS_upd h]
  · rw [if_neg (fun z => h (any_kS.mp z)), lS_app h]
theorem gS_put {m : SI} {s t : Str} {v : Int} : gS (pS m s v) t = if t = s then v else gS m t := by
  unfold gS
  rw [lS_put]
  split <;> rfl
theorem kS_put {m : SI} {s : Str} {v : Int} : kS (pS m s v) = if s ∈ kS m then kS m else kS m ++ [s] := by
  unfold pS
  by_cases h : s ∈ kS m
  · rw [if_pos (any_kS.mpr h), if_pos h]
    unfold kS
    rw [List.map_map]
    refine List.map_congr_left fun q _ => ?_
    show (if q.1 = s then (q.1, v) else q).1 = q.1
    split <;> rfl
  · rw [if_neg (fun z => h (any_kS.mp z)), if_neg h]
    unfold kS
    rw [List.map_append]
    rfl
theorem nd_put {m : SI} {s : Str} {v : Int} (h : (kS m).Nodup) : (kS (pS m s v)).Nodup := by
  rw [kS_put]
  split
  · exact h
  · rename_i hs
    rw [List.nodup_append]
    exact ⟨h, by simp, fun a ha b hb => by
      rw [List.mem_singleton] at hb
      subst hb
      exact fun z => hs (z ▸ ha)⟩
theorem inr_eq {a b : Str} : ((Sum.inr a : Key) = Sum.inr b) = (a = b) := propext ⟨Sum.inr.inj, fun e => by rw [e]⟩
theorem putG_kv {m : SI} {s : Str} {v : Int} : putG (kvI m) (.inr s) (.int v) = kvI (pS m s v) := by
  unfold putG pS kvI
  have h : (List.any (m.map fun p => ((.inr p.1 : Key), IV.int p.2)) fun kv => decide (kv.1 = .inr s)) = m.any fun p => decide (p.1 = s) := by
    rw [List.any_map]
    congr 1
    funext p
    simp only [Function.comp, inr_eq]
  rw [h]
  split
  · rw [List.map_map, List.map_map]
    refine List.map_congr_left fun p _ => ?_
    simp only [Function.comp, inr_eq]
    split <;> rfl
  · rw [List.map_append]
    rfl
theorem mem_put {m : SI} {s : Str} {v : Int} {p : Str × Int} (h : p ∈ pS m s v) : p ∈ m ∨ p = (s, v) := by
  unfold pS at h
  split at h
  · obtain ⟨q, hq, e⟩ := List.mem_map.mp h
    split at e
    · rename_i e2
      right
      rw [← e, e2]
    · left
      rw [← e]
      exact hq
  · rcases List.mem_append.mp h with h | h
    · exact .inl h
    · exact .inr (List.mem_singleton.mp h)
theorem len_put {m : SI} {s : Str} {v : Int} : (pS m s v).length ≤ m.length + 1 := by
  unfold pS
  split <;> simp
/-- from an empty dict on -/
theorem merge_app : ∀ (b a : SI), (kS (a ++ b)).Nodup → mergeG (kvI a) (kvI b) = kvI (a ++ b)
  | [], a, _ => by
    rw [List.append_nil]
    rfl
  | p :: b, a, h => by
    have e : a ++ p :: b = a ++ [p] ++ b := by simp
    have hp : p.1 ∉ kS a := by
      unfold kS at h ⊢
      rw [List.map_append, List.nodup_append] at h
      exact fun z => h.2.2 _ z _ (List.mem_map_of_mem (List.mem_cons_self)) rfl
    have e2 : pS a p.1 p.2 = a ++ [p] := by
      unfold pS
      rw [if_neg (fun z => hp (any_kS.mp z))]
    rw [e] at h ⊢
    rw [← merge_app b (a ++ [p]) h]
    show mergeG (putG (kvI a) (.inr p.1) (.int p.2)) (kvI b) = _
    rw [putG_kv, e2]
theorem merge_nil {b : SI} (h : (kS b).Nodup) : mergeG [] (kvI b) = kvI b := merge_app b [] h
theorem mergeG_app {α : Type} (a b c : List (Key × α)) : mergeG a (b ++ c) = mergeG (mergeG a b) c := List.foldl_append
/-- dict(list(d.items()) + [(s, v)]) -/
theorem merge_one {b : SI} {s : Str} {v : Int} (h : (kS b).Nodup) : mergeG [] (kvI b ++ [(.inr s, .int v)]) = kvI (pS b s v) := by
  rw [mergeG_app, merge_nil h]
  show putG (kvI b) (.inr s) (.int v) = _
  rw [putG_kv]
theorem kv_rev {b : SI} : (kvI b).reverse = kvI b.reverse := by unfold kvI; rw [List.map_reverse]
theorem kS_rev {b : SI} : kS b.reverse = (kS b).reverse := by unfold kS; rw [List.map_reverse]
theorem lS_rev {b : SI} {s : Str} (h : (kS b).Nodup) : lS b.reverse s = lS b s := by
  have h2 : (kS b.reverse).Nodup := by rw [kS_rev]; exact (List.reverse_perm _).nodup_iff.mpr h
  cases e : lS b s with
  | none =>
    rw [lS_none, kS_rev]
    have := lS_none.mp e
    simpa using this
  | some v => exact lS_of h2 (List.mem_reverse.mpr (lS_mem e))
/-! ### == -/
def eqS (a b : SI) : Bool := a.length == b.length && a.all fun p => decide (lS b p.1 = some p.2)
theorem dEqB_kv : ∀ {a b : SI}, dEqB (kvI a) (kvI b) = some (a.all fun p => decide (lS b p.1 = some p.2))
  | [], b => rfl
  | p :: a, b => by
    have ih := dEqB_kv (a := a) (b := b)
    show dEqB ((.inr p.1, .int p.2) :: kvI a) (kvI b) = _
    unfold dEqB
    rw [valG_kv, List.all_cons]
    cases e : lS b p.1 with
    | none => simp
    | some j =>
      simp only [Option.map_some, ih, Option.some.injEq]
      congr 1
      by_cases h : p.2 = j
      · simp [h]
      · simp [h, Ne.symm h, fun z : j = p.2 => h z.symm]
theorem dEq_kv {a b : SI} : dEq (dS a) (dS b) = some (.bl (eqS a b)) := by
  unfold dEq dS eqS
  dsimp only
  rw [List.length_map, List.length_map, zip_kv, zip_kv]
  by_cases h : a.length = b.length
  · rw [if_pos h, dEqB_kv]
    simp [h]
  · rw [if_neg h]
    simp [h]
/-- no entry is 1 -/
structure Kept (m : SI) : Prop where
  nd : (kS m).Nodup
  ne : ∀ p ∈ m, p.2 ≠ 1
theorem len_le : ∀ {A B : List Str}, A.Nodup → (∀ x ∈ A, x ∈ B) → A.length ≤ B.length
  | [], B, _, _ => Nat.zero_le _
  | x :: A, B, hn, h => by
    rw [List.nodup_cons] at hn
    have hx := h x (by simp)
    have := len_le (A := A) (B := B.erase x) hn.2 fun y hy => (List.mem_erase_of_ne (fun z => hn.1 (by rw [← z]; exact hy))).mpr (h y (by simp [hy]))
    have e := List.length_erase_of_mem hx
    have : 0 < B.length := List.length_pos_of_mem hx
    rw [List.length_cons]
    omega
theorem gS_some {m : SI} {s : Str} (hk : Kept m) (h : gS m s ≠ 1) : lS m s = some (gS m s) := by
  unfold gS at h ⊢
  cases e : lS m s with
  | none => rw [e] at h; exact absurd rfl h
  | some v => rfl
theorem gS_mem {m : SI} {p : Str × Int} (hk : Kept m) (h : p ∈ m) : gS m p.1 = p.2 ∧ gS m p.1 ≠ 1 := by
  have := lS_of hk.nd h
  unfold gS
  rw [this]
  exact ⟨rfl, hk.ne p h⟩
theorem eqS_true {a b : SI} (ha : Kept a) (hb : Kept b) (h : ∀ s, gS a s = gS b s) : eqS a b = true := by
  have sub : ∀ {a b : SI}, Kept a → Kept b → (∀ s, gS a s = gS b s) → ∀ p ∈ a, lS b p.1 = some p.2 := fun {a b} ha hb h p hp => by
    obtain ⟨e1, e2⟩ := gS_mem ha hp
    have := gS_some hb (by rw [← h]; exact e2)
    rw [this, ← h, e1]
  have le : ∀ {a b : SI}, Kept a → Kept b → (∀ s, gS a s = gS b s) → a.length ≤ b.length := fun {a b} ha hb h => by
    have := len_le (A := kS a) (B := kS b) ha.nd fun x hx => by
      obtain ⟨p, hp, rfl⟩ := List.mem_map.mp hx
      exact List.mem_map_of_mem (f := (·.1)) (lS_mem (sub ha hb h p hp))
    unfold kS at this
    rw [List.length_map, List.length_map] at this
    exact this
  unfold eqS
  have l1 := le ha hb h
  have l2 := le hb ha fun s => (h s).symm
  rw [Bool.and_eq_true, beq_iff_eq, List.all_eq_true]
  exact ⟨by omega, fun p hp => decide_eq_true (sub ha hb h p hp)⟩
theorem eqS_false {a b : SI} (ha : Kept a) (hb : Kept b) {s : Str} (h : gS a s ≠ gS b s) : eqS a b = false := by
  rw [Bool.eq_false_iff]
  intro z
  unfold eqS at z
  rw [Bool.and_eq_true, beq_iff_eq, List.all_eq_true] at z
  obtain ⟨hl, hz⟩ := z
  have hz : ∀ p ∈ a, lS b p.1 = some p.2 := fun p hp => of_decide_eq_true (hz p hp)
  cases e : lS a s with
  | some v =>
    have := hz _ (lS_mem e)
    exact h (by unfold gS; rw [e, this])
  | none =>
    have e1 : gS a s = 1 := by unfold gS; rw [e]; rfl
    rw [e1] at h
    have e2 := gS_some hb (fun z => h z.symm)
    have hs : s ∈ kS b := List.mem_map_of_mem (f := (·.1)) (lS_mem e2)
    have hs2 := lS_none.mp e
    have := len_le (A := s :: kS a) (B := kS b) (List.nodup_cons.mpr ⟨hs2, ha.nd⟩) fun x hx => by
      rcases List.mem_cons.mp hx with rfl | hx
      · exact hs
      · obtain ⟨p, hp, rfl⟩ := List.mem_map.mp hx
        exact List.mem_map_of_mem (f := (·.1)) (lS_mem (hz p hp))
    rw [List.length_cons] at this
    unfold kS at this
    rw [List.length_map, List.length_map] at this
    omega
/-! ### what a comprehension keeps -/
def keepS (d : SI) (l : List Str) (acc : SI) : SI := l.foldl (fun acc s => if gS d s = 1 then acc else pS acc s (gS d s)) acc
theorem keepS_nd {d : SI} : ∀ (l : List Str) (acc : SI), (kS acc).Nodup → (kS (keepS d l acc)).Nodup
  | [], acc, h => h
  | s :: l, acc, h => by
    show (kS (keepS d l (if gS d s = 1 then acc else pS acc s (gS d s)))).Nodup
    refine keepS_nd l _ ?_
    split
    · exact h
    · exact nd_put h
theorem keepS_get {d : SI} {t : Str} : ∀ (l : List Str) (acc : SI), lS (keepS d l acc) t = if t ∈ l ∧ gS d t ≠ 1 then some (gS d t) else lS acc t
  | [], acc => by simp [keepS]
  | s :: l, acc => by
    show lS (keepS d l (if gS d s = 1 then acc else pS acc s (gS d s))) t = _
    rw [keepS_get l]
    by_cases h1 : t ∈ l ∧ gS d t ≠ 1
    · rw [if_pos h1, if_pos ⟨List.mem_cons_of_mem _ h1.1, h1.2⟩]
    · rw [if_neg h1]
      by_cases h2 : t ∈ s :: l ∧ gS d t ≠ 1
      · have e : t = s := by
          rcases List.mem_cons.mp h2.1 with e | e
          · exact e
          · exact absurd ⟨e, h2.2⟩ h1
        subst e
        rw [if_pos h2, if_neg h2.2, lS_put, if_pos rfl]
      · rw [if_neg h2]
        by_cases h3 : gS d s = 1
        · rw [if_pos h3]
        · rw [if_neg h3, lS_put, if_neg]
          intro e
          subst e
          exact h2 ⟨List.mem_cons_self, h3⟩
theorem keepS_kept {d : SI} {l : List Str} : Kept (keepS d l []) := by
  have hn := keepS_nd (d := d) l [] (by simp [kS])
  refine ⟨hn, fun p hp => ?_⟩
  have e := lS_of hn (show (p.1, p.2) ∈ _ from hp)
  rw [keepS_get] at e
  split at e
  · rename_i h
    have e2 := Option.some.inj e
    exact fun z => h.2 (e2.trans z)
  · cases e
theorem keepS_g {d : SI} {l : List Str} (h : ∀ s ∈ kS d, s ∈ l) (t : Str) : gS (keepS d l []) t = gS d t := by
  have e := keepS_get (d := d) (t := t) l []
  unfold gS at e ⊢
  rw [e]
  split
  · rfl
  · rename_i hn
    show (1 : Int) = _
    cases q : lS d t with
    | none => rfl
    | some v =>
      have ht : t ∈ l := h t (List.mem_map_of_mem (f := (·.1)) (lS_mem q))
      rw [q] at hn
      by_cases hv : v = 1
      · rw [hv]; rfl
      · exact absurd ⟨ht, hv⟩ hn
theorem keepS_len {d : SI} : ∀ (l : List Str) (acc : SI), (keepS d l acc).length ≤ acc.length + l.length
  | [], acc => Nat.le_refl _
  | s :: l, acc => by
    show (keepS d l (if gS d s = 1 then acc else pS acc s (gS d s))).length ≤ _
    have := keepS_len (d := d) l (if gS d s = 1 then acc else pS acc s (gS d s))
    have h2 := len_put (m := acc) (s := s) (v := gS d s)
    rw [List.length_cons]
    split at this <;> split <;> omega
theorem keepS_mem {d : SI} {l : List Str} {p : Str × Int} (h : p ∈ keepS d l []) : p ∈ d := by
  have e := lS_of (keepS_kept (d := d) (l := l)).nd (show (p.1, p.2) ∈ _ from h)
  rw [keepS_get] at e
  split at e
  · rename_i h2
    have e2 := Option.some.inj e
    have h3 := h2.2
    unfold gS at h3 e2
    cases q : lS d p.1 with
    | none => rw [q] at h3; exact absurd rfl h3
    | some v =>
      rw [q] at e2
      have e3 : v = p.2 := e2
      have := lS_mem q
      rw [e3] at this
      exact this
  · cases e
end SL

set_option Elab.async false
set_option linter.all false
set_option autoImplicit false
set_option maxRecDepth 100000
set_option maxHeartbeats 4000000
namespace K09
open PySem PySem.Spec L2 SL
open PyProof.Rows hiding St
def lowS : Str := "abcdefghijklmnopqrstuvwxyz"
def lowB (c : Nat) : Bool := decide (c ∈ lowS.cps.toList)
def nameB (s : Str) : Bool := decide (1 ≤ s.length) && (decide (s.length ≤ 8) && s.cps.toList.all lowB)
def nameI : IV → Bool
  | .str s => nameB s
  | _ => false
def wholeI (x : IV) (lo hi : Int) : Bool := match x with
  | .int i => decide (lo ≤ i) && decide (i ≤ hi)
  | _ => false
section
variable {n : Nat} {cs : List Cell} {x : IV}
theorem seq_str {s : Str} (h : s.length ≤ 1000000) : seqI (.str s) = some (s.cps.toList.map fun c => .str ⟨#[c]⟩) := if_pos h
theorem len_str {s : Str} (h : s.length ≤ 1000000) : fLen cs [.str s] = some (.int s.length) := if_pos h
theorem in_low {c : Nat} : cIn (.str ⟨#[c]⟩) (.str lowS) = some (.bl (lowB c)) := rfl
theorem isName_ok (h : plainI x = true) : f_is_name n [x] cs = .ok (.bl (nameI x)) cs := by
  unfold f_is_name m_is_name
  have e := isi_str (cs := cs) h
  cases hx : knStr x with
  | false =>
    rw [hx] at e
    have : nameI x = false := by cases x <;> first | rfl | cases hx
    simp [startI, e, this, List.replicate]
  | true =>
    rw [hx] at e
    obtain ⟨s, rfl⟩ : ∃ s, x = .str s := by cases x <;> first | exact ⟨_, rfl⟩ | cases hx
    have hl : s.length ≤ 1000000 := by simpa [plainI] using h
    by_cases h1 : 1 ≤ s.length
    · by_cases h2 : s.length ≤ 8
      · have h1' : (1 : Int) ≤ (s.length : Int) := by omega
        have h2' : (s.length : Int) ≤ 8 := by omega
        have hc := cmp_pure (n := n) (gm := gmN 1) (mt := M.pure true) (me := e2 cIn (eV 1) (M.pure (.str "abcdefghijklmnopqrstuvwxyz"))) (σ := [.v (.str s), .un]) (cs := cs) (fun _ => true) (fun x => match x with | .str z => .bl (match z.cps.toList with | [c] => lowB c | _ => false) | _ => .non) (s.cps.toList.map fun c => .str ⟨#[c]⟩) [] (by simp; exact hl) (fun y hy => by
          obtain ⟨c, hc, rfl⟩ := List.mem_map.mp hy
          have := in_low (c := c)
          unfold lowS at this
          exact ⟨[.v (.str s), .v (.str ⟨#[c]⟩)], rfl, rfl, fun _ => by simp [this]⟩)
        have hb := blsOf_map lowB s.cps.toList
        rw [List.filter_eq_self.mpr (by simp), List.map_map] at hc
        have hmm : (fun x : IV => match x with | .str z => IV.bl (match z.cps.toList with | [c] => lowB c | _ => false) | _ => .non) ∘ (fun c : Nat => IV.str ⟨#[c]⟩) = fun c => .bl (lowB c) := rfl
        rw [hmm] at hc
        have hall : fAll cs [.lst (s.cps.toList.map fun c => .bl (lowB c))] = some (.bl (s.cps.toList.all lowB)) := by
          show (blsOf _).map _ = _
          rw [hb]; simp [Function.comp]
        simp [startI, e, len_str hl, h1', h2', seq_str hl, wipeI, hc, hall, nameI, nameB, h1, h2, List.replicate]
      · have h1' : (1 : Int) ≤ (s.length : Int) := by omega
        have h2' : ¬ (s.length : Int) ≤ 8 := by omega
        simp [startI, e, len_str hl, h1', h2', nameI, nameB, h1, h2, List.replicate]
    · have h1' : ¬ (1 : Int) ≤ (s.length : Int) := by omega
      simp [startI, e, len_str hl, h1', nameI, nameB, h1, List.replicate]
theorem integer_ok (h : plainI x = true) : f_is_integer n [x] cs = .ok (.bl (knInt x && !knBl x)) cs := by
  unfold f_is_integer m_is_integer
  simp [startI, isi_int h, isi_bool h, List.replicate]
  cases knInt x <;> simp
theorem between_ok {lo hi : Int} (h : plainI x = true) : f_is_between n [x, .int lo, .int hi] cs = .ok (.bl (wholeI x lo hi)) cs := by
  unfold f_is_between m_is_between
  cases x with
  | int i => by_cases h1 : lo ≤ i <;> simp [startI, integer_ok h, List.replicate, knInt, knBl, wholeI, h1]
  | bl b => simp [startI, integer_ok h, List.replicate, knInt, knBl, wholeI]
  | _ => simp [startI, integer_ok h, List.replicate, knInt, knBl, wholeI]
theorem set_at {α : Type} {cs t : List α} {a b : α} : (cs ++ a :: t).set cs.length b = cs ++ b :: t := by
  induction cs with
  | nil => rfl
  | cons c cs ih => simp only [List.cons_append, List.length_cons, List.set_cons_succ, ih]
theorem get_at {α : Type} {cs t : List α} {a : α} : (cs ++ a :: t)[cs.length]? = some a := by
  induction cs with
  | nil => rfl
  | cons c cs ih => simp only [List.cons_append, List.length_cons, List.getElem?_cons_succ, ih]
theorem val_mem {kvs : List (Key × IV)} (hn : (kvs.map (·.1)).Nodup) {k : Key} {v : IV} (h : (k, v) ∈ kvs) : valG kvs k = some v := by
  unfold valG
  induction kvs with
  | nil => cases h
  | cons p kvs ih =>
    rw [List.find?_cons]
    rcases List.mem_cons.mp h with e | e
    · rw [← e]; simp
    · rw [List.map_cons, List.nodup_cons] at hn
      have : ¬ p.1 = k := fun z => hn.1 (List.mem_map.mpr ⟨_, e, z.symm⟩)
      simp only [this, decide_false]
      exact ih hn.2 e
theorem zip_keys {ks : List Key} {vs : List IV} (hl : ks.length = vs.length) : (ks.zip vs).map (·.1) = ks := List.map_fst_zip (by omega)
theorem key_val {ks : List Key} {vs : List IV} (hl : ks.length = vs.length) (hn : ks.Nodup) {k : Key} (h : k ∈ ks) : ∃ v, (k, v) ∈ ks.zip vs ∧ valG (ks.zip vs) k = some v := by
  rw [← zip_keys hl] at h
  obtain ⟨p, hp, rfl⟩ := List.mem_map.mp h
  exact ⟨p.2, hp, val_mem (by rw [zip_keys hl]; exact hn) hp⟩
theorem keyI_kI {k : Key} : keyI (kI k) = some k := by cases k <;> rfl
theorem plain_kI {k : Key} (h : nicK k = true) : plainI (kI k) = true := by
  cases k with
  | inl i => rfl
  | inr s => exact nic_plain (x := .str s) (by simp only [nic]; exact h)
theorem zip_nic {ks : List Key} {vs : List IV} (h : nic (.dct ks vs) = true) {p : Key × IV} (hp : p ∈ ks.zip vs) : nicK p.1 = true ∧ nic p.2 = true := by
  simp only [nic, Bool.and_eq_true] at h
  have := List.of_mem_zip (show (p.1, p.2) ∈ ks.zip vs from hp)
  exact ⟨List.all_eq_true.mp h.1 _ this.1, nicL_iff.mp h.2 _ this.2⟩
theorem sto1 {c f : Str} {y : IV} {t : List Cell} : stoI c f y (.cell cs.length) (cs ++ .ins c [] [] :: t) = some (cs ++ .ins c [f] [y] :: t) := by
  unfold stoI; dsimp only; rw [get_at]; dsimp only
  rw [if_pos ⟨rfl, by decide⟩]
  show some (List.set _ _ _) = _
  rw [set_at]
  try rfl
theorem sto2 {c f g : Str} {y z : IV} {t : List Cell} (h : f ≠ g) : stoI c g z (.cell cs.length) (cs ++ .ins c [f] [y] :: t) = some (cs ++ .ins c [f, g] [y, z] :: t) := by
  unfold stoI; dsimp only; rw [get_at]; dsimp only
  rw [if_pos ⟨rfl, by simp⟩]
  have : putI g z [f] [y] = some ([f, g], [y, z]) := by
    unfold putI; rw [if_neg h]
    show (putI g z [] []).map _ = _
    rfl
  rw [this]
  show some (List.set _ _ _) = _
  rw [set_at]
def badS (p : IV) : Exn := ⟨"InvalidSetting", ["value"], [p]⟩
def badN (p : IV) : Exn := ⟨"UnknownName", ["name"], [p]⟩
theorem turn_in : cNotIn (.str "turn") (.tup [.str "turn", .str "number"]) = some (.bl false) := by kernel_rfl
theorem turn_str : ∀ cs, fIsi cs [.str "turn", .ty "str"] = some (.bl true) := fun cs => rfl
theorem p6 : bPow (.int 10) (.int 6) = some (.int 1000000) := by rw [powI (by decide) (by decide) (by decide)]; try rfl
end
def objS (d r : IV) : IV := .obj "Setting" ["own_slownesses", "own_rule"] [d, r]
def cellS (m : SI) : Cell := .dct (m.map fun p => .inr p.1) (m.map fun p => .int p.2)
def dcM : M IV := eDc (mIt (eCall fSortedD (aCons (eV 3) (aNil)))) (gmN 4) (mB (e2 cNe (e2c dixI (eV 3) (eV 4)) (M.pure (.int 1)))) (eV 4) (e2c dixI (eV 3) (eV 4)) [4]
def allM : M IV := eLc (mKeys (eV 0)) (gmN 1) (M.pure true) (eAnd (eFn f_is_name 1 [] (aCons (eV 1) (aNil))) (eFn f_is_between 3 [] (aCons (e2c dixI (eV 0) (eV 1)) (aCons (M.pure (.int 0)) (aCons (M.pure (.int 1000000)) (aNil)))))) [1]
theorem are_eq : m_are_slownesses = sSeq (sIf (mNot (mT (eCall fIsi (aCons (eV 0) (aCons (M.pure (.ty "dict")) (aNil)))))) (sRet (M.pure (.bl false))) (sNext)) (sRet (eCall fAll (aCons (eLockE 0 allM) (aNil)))) := rfl
theorem sinit_eq : m_Setting_init = sSeq (sIf (mAnd (mB (e2 cIsNot (eV 1) (M.pure .non))) (mNot (mT (eFn f_are_slownesses 1 [] (aCons (eV 1) (aNil)))))) (sRaise "InvalidSetting" "value" (eV 1)) (sNext)) (sSeq (sIf (mOr (mNot (mT (eCall fIsi (aCons (eV 2) (aCons (M.pure (.ty "str")) (aNil)))))) (mB (e2 cNotIn (eV 2) (M.pure (.tup [(.str "turn"), (.str "number")]))))) (sRaise "InvalidSetting" "value" (eV 2)) (sNext)) (sSeq (sSet 3 (eIf (mB (e2 cIs (eV 1) (M.pure .non))) (M.pure (.dct [] [])) (eV 1))) (sSeq (sFld "Setting" "own_slownesses" (eV 0) (eFrz (eLockE 3 dcM))) (sFld "Setting" "own_rule" (eV 0) (eV 2))))) := rfl
def slowB (kvs : List (Key × IV)) : Bool := kvs.all fun p => nameI (kI p.1) && wholeI p.2 0 1000000
def okS (m : SI) : Prop := ∀ p ∈ m, nameB p.1 = true ∧ 0 ≤ p.2 ∧ p.2 ≤ 1000000
/-- a dict of slownesses, live or still -/
structure GD (x : IV) (cs : List Cell) (m : SI) : Prop where
  at_ : x = dS m ∨ ∃ k, x = .cell k ∧ cs[k]? = some (cellS m) ∧ ∀ c ∈ cs, noKC c = true
  nd : (kS m).Nodup
  ok : okS m
  sm : m.length < 60
theorem noKL_iff : ∀ {xs : List IV}, noKL xs = true ↔ ∀ x ∈ xs, noK x = true
  | [] => by simp [noKL]
  | x :: xs => by simp [noKL, noKL_iff (xs := xs)]
theorem noKC_cellS {m : SI} : noKC (cellS m) = true := by
  unfold cellS noKC
  exact noKL_iff.mpr fun x hx => by
    obtain ⟨p, _, rfl⟩ := List.mem_map.mp hx
    rfl
theorem noKL_ints {m : SI} : noKL (m.map fun p => IV.int p.2) = true := noKC_cellS
theorem nicS_name {s : Str} (h : nameB s = true) : nicS s = true := by
  unfold nameB at h
  simp only [Bool.and_eq_true, decide_eq_true_eq] at h
  unfold nicS
  simp only [Bool.and_eq_true, decide_eq_true_eq]
  refine ⟨by have := h.2.1; unfold Str.length at this; omega, ?_⟩
  rw [← Array.all_toList, List.all_eq_true]
  intro c hc
  have := List.all_eq_true.mp h.2.2 c hc
  unfold lowB at this
  have h2 : ∀ c ∈ lowS.cps.toList, c < 0x110000 := by decide +kernel
  exact decide_eq_true (h2 c (of_decide_eq_true this))
section
variable {n : Nat} {cs : List Cell} {a0 a1 a2 a4 : SV}
theorem all_ok {ks : List Key} {vs : List IV} (hl : ks.length = vs.length) (hn : ks.Nodup) (h60 : ks.length < 1000) (hnic : nic (.dct ks vs) = true) {a : SV} :
    allM n [.v (.dct ks vs), a] cs = .ok (.lst ((ks.zip vs).map fun p => .bl (nameI (kI p.1) && wholeI p.2 0 1000000))) cs := by
  have hc := cmp_pure (n := n) (gm := gmN 1) (mt := M.pure true) (me := eAnd (eFn f_is_name 1 [] (aCons (eV 1) (aNil))) (eFn f_is_between 3 [] (aCons (e2c dixI (eV 0) (eV 1)) (aCons (M.pure (.int 0)) (aCons (M.pure (.int 1000000)) (aNil)))))) (σ := [.v (.dct ks vs), .un]) (cs := cs) (fun _ => true) (fun y => .bl (nameI y && wholeI ((dixI [] (.dct ks vs) y).getD .non) 0 1000000)) (ks.map kI) [] (by simp; omega) (fun y hy => by
    obtain ⟨k, hk, rfl⟩ := List.mem_map.mp hy
    obtain ⟨v, h1, h2⟩ := key_val hl hn hk
    obtain ⟨h3, h4⟩ := zip_nic hnic h1
    have e1 := isName_ok (n := n) (cs := cs) (plain_kI h3)
    have e2 := between_ok (n := n) (cs := cs) (lo := 0) (hi := 1000000) (nic_plain h4)
    have hd : ∀ cs, dixI cs (.dct ks vs) (kI k) = some v := fun cs => by
      show (keyI (kI k)).bind _ = _
      rw [keyI_kI]; exact h2
    refine ⟨[.v (.dct ks vs), .v (kI k)], rfl, rfl, fun _ => ?_⟩
    simp only at e1 e2
    cases hb : nameI (kI k) <;> simp [e1, e2, hd, hb])
  rw [List.filter_eq_self.mpr (by simp), List.map_map, List.nil_append] at hc
  have hk : keysI (.dct ks vs) = some (ks.map kI) := if_pos hl
  have e : (ks.map ((fun y => IV.bl (nameI y && wholeI ((dixI [] (.dct ks vs) y).getD .non) 0 1000000)) ∘ kI)) = (ks.zip vs).map fun p => .bl (nameI (kI p.1) && wholeI p.2 0 1000000) := by
    have : ks.map ((fun y => IV.bl (nameI y && wholeI ((dixI [] (.dct ks vs) y).getD .non) 0 1000000)) ∘ kI) = (ks.zip vs).map fun p => .bl (nameI (kI p.1) && wholeI ((dixI [] (.dct ks vs) (kI p.1)).getD .non) 0 1000000) := by
      have z : ∀ f : IV → IV, ks.map (f ∘ kI) = (ks.zip vs).map fun p => f (kI p.1) := fun f => by
        conv => lhs; rw [← zip_keys hl, List.map_map]
        rfl
      exact z _
    rw [this]
    refine List.map_congr_left fun p hp => ?_
    have hv : dixI [] (.dct ks vs) (kI p.1) = some p.2 := by
      show (keyI (kI p.1)).bind _ = _
      rw [keyI_kI]; exact val_mem (by rw [zip_keys hl]; exact hn) hp
    rw [hv]; rfl
  rw [e] at hc
  unfold allM
  simp [hk, wipeI, hc]
theorem fAll_bl {α : Type} (f : α → Bool) (l : List α) : fAll cs [.lst (l.map fun x => .bl (f x))] = some (.bl (l.all f)) := by
  show (blsOf _).map _ = _
  rw [blsOf_map]; simp [Function.comp_def]
theorem slows_ok {ks : List Key} {vs : List IV} (hl : ks.length = vs.length) (hn : ks.Nodup) (h60 : ks.length < 1000) (hnic : nic (.dct ks vs) = true) :
    f_are_slownesses n [.dct ks vs] cs = .ok (.bl (slowB (ks.zip vs))) cs := by
  have e := all_ok (n := n) (cs := cs) (a := .un) hl hn h60 hnic
  have e2 : eLockE 0 allM n [.v (.dct ks vs)] cs = allM n [.v (.dct ks vs)] cs := ev_lock_no fun k z => by cases z
  have e3 : eLockE 0 allM n [.v (.dct ks vs), .un] cs = allM n [.v (.dct ks vs), .un] cs := ev_lock_no fun k z => by cases z
  have hi := isi_dct (cs := cs) (x := .dct ks vs) rfl
  have ha := fAll_bl (cs := cs) (fun p : Key × IV => nameI (kI p.1) && wholeI p.2 0 1000000) (ks.zip vs)
  unfold f_are_slownesses
  rw [are_eq]
  unfold slowB
  simp [startI, List.replicate, hi, knDct, e3, e, ha]
theorem slows_not {x : IV} (hp : plainI x = true) (h : knDct x = false) : f_are_slownesses n [x] cs = .ok (.bl false) cs := by
  have hi := isi_dct (cs := cs) hp
  unfold f_are_slownesses
  rw [are_eq]
  simp [startI, List.replicate, hi, h]
theorem dS_good {m : SI} (ok : okS m) : nic (dS m) = true ∧ slowB (kvI m) = true := by
  refine ⟨?_, ?_⟩
  · unfold dS
    simp only [nic, Bool.and_eq_true]
    refine ⟨List.all_eq_true.mpr fun k hk => ?_, nicL_iff.mpr fun x hx => ?_⟩
    · obtain ⟨p, hp, rfl⟩ := List.mem_map.mp hk
      exact nicS_name (ok p hp).1
    · obtain ⟨p, hp, rfl⟩ := List.mem_map.mp hx
      simp only [nic, decide_eq_true_eq]
      have := ok p hp
      omega
  · unfold slowB kvI
    rw [List.all_map, List.all_eq_true]
    intro p hp
    obtain ⟨h1, h2, h3⟩ := ok p hp
    have : nameI (.str p.1) = true := h1
    simp [kI, this, wholeI, h2, h3]
theorem nd_inr {m : SI} (h : (kS m).Nodup) : (m.map fun p => (Sum.inr p.1 : Key)).Nodup := by
  have : (m.map fun p => (Sum.inr p.1 : Key)) = (kS m).map Sum.inr := by unfold kS; rw [List.map_map]; rfl
  rw [this]
  exact List.pairwise_map.mpr (h.imp fun hab z => hab (Sum.inr.inj z))
theorem set_back {α : Type} {l : List α} {k : Nat} {a b : α} (h : l[k]? = some a) : (l.set k b).set k a = l := by
  rw [List.set_set]
  obtain ⟨hk, e⟩ := List.getElem?_eq_some_iff.mp h
  rw [← e]
  exact List.set_getElem_self hk
theorem are_ok {x : IV} {m : SI} (g : GD x cs m) : f_are_slownesses n [x] cs = .ok (.bl true) cs := by
  obtain ⟨hg, hs⟩ := dS_good g.ok
  have nd := nd_inr g.nd
  rcases g.at_ with rfl | ⟨k, rfl, hk, hc⟩
  · have := slows_ok (n := n) (cs := cs) (ks := m.map fun p : Str × Int => (Sum.inr p.1 : Key)) (vs := m.map fun p : Str × Int => IV.int p.2) (by simp) nd (by have := g.sm; simp; omega) hg
    rw [zip_kv, hs] at this
    exact this
  · have e := all_ok (n := n) (cs := cs.set k .dead) (a := .un) (ks := m.map fun p : Str × Int => (Sum.inr p.1 : Key)) (vs := m.map fun p : Str × Int => IV.int p.2) (by simp) nd (by have := g.sm; simp; omega) hg
    rw [zip_kv] at e
    have e2 := ev_lock_live (n := n) (m := allM) (σ := [.v (.cell k), .un]) (cs := cs) (i := 0) rfl hk
    have hlk : lockOk (.lst ((kvI m).map fun p => .bl (nameI (kI p.1) && wholeI p.2 0 1000000))) (m.map fun p => .int p.2) (cs.set k .dead) k = true := by
      unfold lockOk
      have hkl := (List.getElem?_eq_some_iff.mp hk).1
      rw [List.getElem?_set_self hkl]
      simp only [Bool.and_eq_true, noKL_ints, Bool.and_true, true_and]
      refine ⟨noKL_iff.mpr fun x hx => ?_, List.all_eq_true.mpr fun c hc2 => ?_⟩
      · obtain ⟨p, _, rfl⟩ := List.mem_map.mp hx; rfl
      · rcases List.mem_or_eq_of_mem_set hc2 with h | rfl
        · exact hc c h
        · rfl
    simp only [List.set_cons_zero] at e2
    rw [e] at e2
    simp only [hlk, if_true] at e2
    have hb : (cs.set k .dead).set k (.dct (m.map fun p => .inr p.1) (m.map fun p => .int p.2)) = cs := set_back hk
    rw [hb] at e2
    have hi : fIsi cs [.cell k, .ty "dict"] = some (.bl true) := by
      have : tyI cs (.cell k) = some "dict" := by unfold tyI; simp only [hk, cellS]
      show (match tyI cs (.cell k) with
        | some t => (isiTab t "dict").map IV.bl
        | none => none) = _
      rw [this]; rfl
    have ha := fAll_bl (cs := cs) (fun p : Key × IV => nameI (kI p.1) && wholeI p.2 0 1000000) (kvI m)
    have hs2 : (kvI m).all (fun p : Key × IV => nameI (kI p.1) && wholeI p.2 0 1000000) = true := hs
    unfold f_are_slownesses
    rw [are_eq]
    simp [startI, List.replicate, hi, e2, ha, hs2]
theorem strK_kS {m : SI} : strK (m.map fun p => (.inr p.1 : Key)) = some (kS m) := by
  unfold kS
  induction m with
  | nil => rfl
  | cons p m ih => simp only [List.map_cons, strK, ih, Option.map_some]
theorem put_cellS {t : List Cell} {s : Str} {i : Int} {m : SI} (h : m.length < 1000000) : dputI (.cell t.length) (.str s) (.int i) (t ++ [cellS m]) = some (t ++ [cellS (pS m s i)]) := by
  unfold dputI
  dsimp only
  rw [get_at]
  unfold cellS
  dsimp only
  rw [if_pos (by show _ < 1000000; simpa using h), zip_kv]
  show some (List.set _ _ _) = _
  rw [set_at]
  have : keyI (.str s) = some (.inr s) := rfl
  rw [putG_kv]
  unfold kvI
  simp only [List.map_map]
  rfl
theorem dcL_ok {m : SI} : ∀ (l : List Str) (acc : SI), acc.length + l.length ≤ 1000 → (∀ s ∈ l, s ∈ kS m) →
    dcL (gmN 4) (mB (e2 cNe (e2c dixI (eV 3) (eV 4)) (M.pure (.int 1)))) (eV 4) (e2c dixI (eV 3) (eV 4)) n [a0, a1, a2, .v (dS m), .un] cs.length (l.map IV.str) (cs ++ [cellS acc]) = .ok () (cs ++ [cellS (keepS m l acc)])
  | [], acc, _, _ => rfl
  | s :: l, acc, hl, h => by
    simp only [List.length_cons] at hl
    obtain ⟨i, hi⟩ : ∃ i, lS m s = some i := by
      cases e : lS m s with
      | none => exact absurd (h s (by simp)) (lS_none.mp e)
      | some i => exact ⟨i, rfl⟩
    have hgs : gS m s = i := by unfold gS; rw [hi]; rfl
    have hd : ∀ cs, dixI cs (dS m) (.str s) = some (.int i) := fun _ => by
      show valG ((m.map fun p => (.inr p.1 : Key)).zip (m.map fun p => IV.int p.2)) (.inr s) = _
      rw [zip_kv, valG_kv, hi]; rfl
    have hg : gmN 4 (.str s) [a0, a1, a2, .v (dS m), .un] = some [a0, a1, a2, .v (dS m), .v (.str s)] := rfl
    have ht : mB (e2 cNe (e2c dixI (eV 3) (eV 4)) (M.pure (.int 1))) n [a0, a1, a2, .v (dS m), .v (.str s)] (cs ++ [cellS acc]) = .ok (!decide (i = 1)) (cs ++ [cellS acc]) := by simp [hd]
    have ek : keepS m (s :: l) acc = keepS m l (if i = 1 then acc else pS acc s i) := by
      show keepS m l (if gS m s = 1 then acc else pS acc s (gS m s)) = _
      rw [hgs]
    rw [List.map_cons, dcL, hg]
    dsimp only
    rw [ht, ek]
    by_cases h1 : i = 1
    · rw [if_pos h1]
      have := dcL_ok l acc (by omega) (fun t ht => h t (by simp [ht]))
      simp only [h1, decide_true, Bool.not_true]
      exact this
    · rw [if_neg h1]
      have hk : eV 4 n [a0, a1, a2, .v (dS m), .v (.str s)] (cs ++ [cellS acc]) = .ok (.str s) (cs ++ [cellS acc]) := rfl
      have hv : e2c dixI (eV 3) (eV 4) n [a0, a1, a2, .v (dS m), .v (.str s)] (cs ++ [cellS acc]) = .ok (.int i) (cs ++ [cellS acc]) := by simp [hd]
      have hp := put_cellS (t := cs) (s := s) (i := i) (m := acc) (by omega)
      have := dcL_ok l (pS acc s i) (by have := len_put (m := acc) (s := s) (v := i); omega) (fun t ht => h t (by simp [ht]))
      simp only [h1, decide_false, Bool.not_false]
      rw [hk]
      dsimp only
      rw [hv]
      dsimp only
      rw [hp]
      exact this
def keptS (m : SI) : SI := keepS m (srtT (kS m)) []
theorem srt_mem {l : List Str} {s : Str} : s ∈ srtT l ↔ s ∈ l := (srtT_perm l).mem_iff
theorem dcM_ok {m : SI} (hl : m.length < 60) : dcM n [a0, a1, a2, .v (dS m), a4] cs = .ok (.cell cs.length) (cs ++ [cellS (keptS m)]) := by
  have hlen : (kS m).length = m.length := by unfold kS; simp
  have hf : ∀ cs, fSortedD cs [dS m] = some (.lst ((srtT (kS m)).map IV.str)) := fun cs => by
    show (strK _).bind _ = _
    rw [strK_kS]
    exact if_pos (by omega)
  have hseq : ∀ l : List IV, seqI (.lst l) = some l := fun _ => rfl
  have hm : mIt (eCall fSortedD (aCons (eV 3) (aNil))) n [a0, a1, a2, .v (dS m), a4] cs = .ok ((srtT (kS m)).map IV.str) cs := by
    simp [hf, hseq]
  have e := dcL_ok (n := n) (cs := cs) (m := m) (a0 := a0) (a1 := a1) (a2 := a2) (srtT (kS m)) [] (by have := (srtT_perm (kS m)).length_eq; simp; omega) (fun s hs => srt_mem.mp hs)
  unfold dcM eDc
  rw [ev_bind, hm, then_ok]
  show (dcL _ _ _ _ n [a0, a1, a2, .v (dS m), .un] cs.length _ (cs ++ [cellS []])).then _ = _
  rw [e]; rfl
theorem own_ok {x : IV} {m : SI} (g : GD x cs m) : eFrz (eLockE 3 dcM) n [a0, a1, a2, .v x, a4] cs = .ok (dS (keptS m)) (cs ++ [.dead]) := by
  have key : eLockE 3 dcM n [a0, a1, a2, .v x, a4] cs = .ok (.cell cs.length) (cs ++ [cellS (keptS m)]) := by
    rcases g.at_ with rfl | ⟨k, rfl, hk, hc⟩
    · rw [ev_lock_no (fun k z => by cases z)]
      exact dcM_ok g.sm
    · have e2 := ev_lock_live (n := n) (m := dcM) (σ := [a0, a1, a2, .v (.cell k), a4]) (cs := cs) (i := 3) rfl hk
      have e3 := dcM_ok (n := n) (cs := cs.set k .dead) (a0 := a0) (a1 := a1) (a2 := a2) (a4 := a4) g.sm
      have hkl := (List.getElem?_eq_some_iff.mp hk).1
      have hlk : lockOk (.cell cs.length) (m.map fun p => .int p.2) (cs.set k .dead ++ [cellS (keptS m)]) k = true := by
        unfold lockOk
        rw [List.getElem?_append_left (by simpa using hkl), List.getElem?_set_self hkl]
        simp only [Bool.and_eq_true, noKL_ints, Bool.and_true, true_and]
        refine ⟨rfl, List.all_eq_true.mpr fun c hc2 => ?_⟩
        rcases List.mem_append.mp hc2 with hc2 | hc2
        · rcases List.mem_or_eq_of_mem_set hc2 with h | rfl
          · exact hc c h
          · rfl
        · rw [List.mem_singleton.mp hc2]; exact noKC_cellS
      rw [List.length_set] at e3
      rw [e2]
      simp only [List.set_cons_succ, List.set_cons_zero]
      rw [show IV.dct (m.map fun p => .inr p.1) (m.map fun p => .int p.2) = dS m from rfl, e3]
      simp only [hlk, if_true]
      rw [List.set_append_left _ _ (by simpa using hkl), show (cs.set k .dead).set k (.dct (m.map fun p => .inr p.1) (m.map fun p => .int p.2)) = cs from set_back hk]
  have hz : frzV (.cell cs.length) (cs ++ [cellS (keptS m)]) = (dS (keptS m), (cs ++ [cellS (keptS m)]).set cs.length .dead) := frzV_dct get_at
  rw [ev_frz, key, then_ok, hz, set_at]
theorem GD.ext {x : IV} {m : SI} (g : GD x cs m) {t : List Cell} (ht : ∀ c ∈ t, noKC c = true) : GD x (cs ++ t) m := by
  refine ⟨?_, g.nd, g.ok, g.sm⟩
  rcases g.at_ with e | ⟨k, e, hk, hc⟩
  · exact .inl e
  · refine .inr ⟨k, e, ?_, fun c h => ?_⟩
    · rw [List.getElem?_append_left (List.getElem?_eq_some_iff.mp hk).1]; exact hk
    · rcases List.mem_append.mp h with h | h
      · exact hc c h
      · exact ht c h
theorem num_in : cNotIn (.str "number") (.tup [.str "turn", .str "number"]) = some (.bl false) := by kernel_rfl
def ruleP (r : IV) : Prop := r = .str "turn" ∨ r = .str "number"
theorem rule_in {r : IV} (h : ruleP r) : cNotIn r (.tup [.str "turn", .str "number"]) = some (.bl false) ∧ ∀ cs, fIsi cs [r, .ty "str"] = some (.bl true) := by
  rcases h with rfl | rfl
  · exact ⟨turn_in, fun _ => rfl⟩
  · exact ⟨num_in, fun _ => rfl⟩
theorem ne_own : ("own_slownesses" : Str) ≠ "own_rule" := by decide +kernel
theorem non_gd {x : IV} {m : SI} (g : GD x cs m) : cIsNot x .non = some (.bl true) ∧ cIs x .non = some (.bl false) := by
  rcases g.at_ with rfl | ⟨k, rfl, _, _⟩ <;> exact ⟨rfl, rfl⟩
/-- a setting is made -/
theorem set_mk {x ru : IV} {m : SI} (g : GD x cs m) (hr : ruleP ru) :
    ∃ C, mkI "Setting" f_Setting_init [x, ru] n cs = .ok (.cell cs.length) C ∧ frzV (.cell cs.length) C = (objS (dS (keptS m)) ru, cs ++ [.dead, .dead]) := by
  have st1 := fun (d : IV) (t : List Cell) => sto1 (cs := cs) (c := "Setting") (f := "own_slownesses") (y := d) (t := t)
  have st2 := fun (d : IV) (t : List Cell) => sto2 (cs := cs) (c := "Setting") (f := "own_slownesses") (g := "own_rule") (y := d) (z := ru) (t := t) ne_own
  have g2 := g.ext (t := [.ins "Setting" [] []]) (fun c h => by rw [List.mem_singleton.mp h]; rfl)
  have e1 := are_ok (n := n) g2
  have e2 := fun a0 a1 a2 a4 => own_ok (n := n) (a0 := a0) (a1 := a1) (a2 := a2) (a4 := a4) g2
  obtain ⟨n1, n2⟩ := non_gd g
  obtain ⟨r1, r2⟩ := rule_in hr
  have key : f_Setting_init n [.cell cs.length, x, ru] (cs ++ [.ins "Setting" [] []]) = .ok .non (cs ++ [.ins "Setting" ["own_slownesses", "own_rule"] [dS (keptS m), ru], .dead]) := by
    unfold f_Setting_init
    rw [sinit_eq]
    simp only [ev_frz] at e2
    simp [startI, List.replicate, n1, n2, r1, r2, e1, e2, st1, st2]
  refine ⟨_, by unfold mkI; rw [key], ?_⟩
  rw [frzV_ins get_at, set_at]; try rfl
theorem gd_nil : GD (dS []) cs [] := ⟨.inl rfl, List.nodup_nil, (fun p h => by cases h), by decide⟩
theorem set_mk0 {ru : IV} (hr : ruleP ru) :
    ∃ C, mkI "Setting" f_Setting_init [.non, ru] n cs = .ok (.cell cs.length) C ∧ frzV (.cell cs.length) C = (objS (dS []) ru, cs ++ [.dead, .dead]) := by
  have st1 := fun (d : IV) (t : List Cell) => sto1 (cs := cs) (c := "Setting") (f := "own_slownesses") (y := d) (t := t)
  have st2 := fun (d : IV) (t : List Cell) => sto2 (cs := cs) (c := "Setting") (f := "own_slownesses") (g := "own_rule") (y := d) (z := ru) (t := t) ne_own
  have e2 := fun a0 a1 a2 a4 => own_ok (n := n) (cs := cs ++ [.ins "Setting" [] []]) (a0 := a0) (a1 := a1) (a2 := a2) (a4 := a4) gd_nil
  have n1 : cIsNot .non .non = some (.bl false) := rfl
  have n2 : cIs .non .non = some (.bl true) := rfl
  obtain ⟨r1, r2⟩ := rule_in hr
  have hk : keptS [] = [] := rfl
  have hd : IV.dct [] [] = dS [] := rfl
  have key : f_Setting_init n [.cell cs.length, .non, ru] (cs ++ [.ins "Setting" [] []]) = .ok .non (cs ++ [.ins "Setting" ["own_slownesses", "own_rule"] [dS [], ru], .dead]) := by
    unfold f_Setting_init
    rw [sinit_eq]
    simp only [ev_frz, hk] at e2
    simp [startI, List.replicate, n1, n2, r1, r2, hd, e2, st1, st2]
  refine ⟨_, by unfold mkI; rw [key], ?_⟩
  rw [frzV_ins get_at, set_at]; try rfl
/-- refused for its slownesses -/
theorem set_ex1 {x ru : IV} (h : ∀ cs, f_are_slownesses n [x] cs = .ok (.bl false) cs) (hn : cIsNot x .non = some (.bl true)) : mkI "Setting" f_Setting_init [x, ru] n cs = .ex (badS x) (cs ++ [.ins "Setting" [] []]) := by
  have key : f_Setting_init n [.cell cs.length, x, ru] (cs ++ [.ins "Setting" [] []]) = .ex (badS x) (cs ++ [.ins "Setting" [] []]) := by
    unfold f_Setting_init
    rw [sinit_eq]
    simp [startI, List.replicate, hn, h, badS]
  unfold mkI; rw [key]
/-- refused for its rule -/
theorem set_ex2 {x ru : IV} {m : SI} (g : GD x cs m) (hp : plainI ru = true) (h : knStr ru = false ∨ cNotIn ru (.tup [.str "turn", .str "number"]) = some (.bl true)) : mkI "Setting" f_Setting_init [x, ru] n cs = .ex (badS ru) (cs ++ [.ins "Setting" [] []]) := by
  have g2 := g.ext (t := [.ins "Setting" [] []]) (fun c h => by rw [List.mem_singleton.mp h]; rfl)
  have e1 := are_ok (n := n) g2
  obtain ⟨n1, n2⟩ := non_gd g
  have hi := fun cs => isi_str (cs := cs) hp
  have key : f_Setting_init n [.cell cs.length, x, ru] (cs ++ [.ins "Setting" [] []]) = .ex (badS ru) (cs ++ [.ins "Setting" [] []]) := by
    unfold f_Setting_init
    rw [sinit_eq]
    cases hk : knStr ru with
    | false => simp [startI, List.replicate, n1, e1, hi, hk, badS]
    | true =>
      rcases h with h | h
      · rw [hk] at h; cases h
      · simp [startI, List.replicate, n1, e1, hi, hk, h, badS]
  unfold mkI; rw [key]
/-! what a setting tells -/
theorem fldD {d r : IV} : ∀ cs, fldI "Setting" "own_slownesses" (objS d r) cs = some d := fun _ => by
  unfold fldI insI objS; dsimp only [Option.bind]; rw [if_pos rfl]; try rfl
theorem fldR {d r : IV} : ∀ cs, fldI "Setting" "own_rule" (objS d r) cs = some r := fun _ => by
  unfold fldI insI objS; dsimp only [Option.bind]; rw [if_pos rfl]
  have : (("own_rule" : Str) == "own_slownesses") = false := by decide +kernel
  simp [List.lookup, this]
theorem dg_dS {m : SI} {s : Str} : ∀ cs, dgI (dS m) (.str s) (.int 1) cs = some (.int (gS m s)) := fun cs => by
  show some ((valG ((m.map fun p => (.inr p.1 : Key)).zip (m.map fun p => IV.int p.2)) (.inr s)).getD (.int 1)) = _
  rw [zip_kv, valG_kv]
  unfold gS
  cases lS m s <;> rfl
theorem dc_dS {m : SI} : ∀ cs, (dcI (dS m) cs).isSome = true := fun _ => rfl
theorem slo_ok {m : SI} {r : IV} {s : Str} (h : nameB s = true) : f_Setting_slowness n [objS (dS m) r, .str s] cs = .ok (.int (gS m s)) cs := by
  have e := fun cs => isName_ok (n := n) (cs := cs) (x := .str s) (nic_plain (by simp only [nic]; exact nicS_name h))
  have hn : nameI (.str s) = true := h
  unfold f_Setting_slowness m_Setting_slowness
  simp [startI, List.replicate, e, hn, fldD, dc_dS, dg_dS]
theorem rule_ok {d r : IV} : f_Setting_rule n [objS d r] cs = .ok r cs := by
  unfold f_Setting_rule m_Setting_rule
  simp [startI, List.replicate, fldR]
theorem with_bad {d r w v : IV} (hp : plainI w = true) (h : nameI w = false) : f_Setting_with_slowness n [objS d r, w, v] cs = .ex (badN w) cs := by
  have e := fun cs => isName_ok (n := n) (cs := cs) hp
  unfold f_Setting_with_slowness m_Setting_with_slowness
  simp [startI, List.replicate, e, h, badN]
theorem with_bad2 {d r w v : IV} (hp : plainI w = true) (h : nameI w = true) (hv : plainI v = true) (hb : wholeI v 0 1000000 = false) : f_Setting_with_slowness n [objS d r, w, v] cs = .ex (badS v) cs := by
  have e := fun cs => isName_ok (n := n) (cs := cs) hp
  have e2 := fun cs => between_ok (n := n) (cs := cs) (lo := 0) (hi := 1000000) hv
  unfold f_Setting_with_slowness m_Setting_with_slowness
  simp [startI, List.replicate, e, h, e2, hb, badS]
theorem star_dS {m : SI} {s : Str} {i : Int} (h : m.length < 1000) : starI (dS m) [(.str s, .int i)] = some (dS (pS m s i)) := by
  have hm : mergeG (kvI m) (mergeG [] [((.inr s : Key), IV.int i)]) = kvI (pS m s i) := by
    show putG (kvI m) (.inr s) (.int i) = _
    rw [putG_kv]
  have hp : prsI [(IV.str s, IV.int i)] = some [(.inr s, .int i)] := rfl
  unfold starI dS
  dsimp only
  rw [hp]
  show (if [((Sum.inr s : Key), IV.int i)].length ≤ 15 ∧ (m.map fun p : Str × Int => (Sum.inr p.1 : Key)).length + [((Sum.inr s : Key), IV.int i)].length ≤ 1000000 then _ else none) = _
  rw [if_pos ⟨by simp, by simp; omega⟩, zip_kv, hm]
  show some (IV.dct _ _) = _
  rw [← dS_kv]
  rfl
theorem eStar_ok {m : SI} {s : Str} {i : Int} {mo : M IV} {σ : List SV} {a b : Nat} (h : mo n σ cs = .ok (dS m) cs) (ha : σ[a]? = some (.v (.str s))) (hb : σ[b]? = some (.v (.int i))) (hl : m.length < 1000) : eStar mo [(eV a, eV b)] n σ cs = .ok (dS (pS m s i)) cs := by
  unfold eStar
  rw [ev_bind, h, then_ok, if_pos (show isDct (dS m) = true from rfl), ev_bind]
  have : mPrs [(eV a, eV b)] n σ cs = .ok [(.str s, .int i)] cs := by
    show ((eV a).bind fun x => (eV b).bind fun y => (mPrs []).bind fun r => M.pure ((x, y) :: r)) n σ cs = _
    simp [ha, hb]
    rfl
  rw [this, then_ok, ev_opt, star_dS hl]
  rfl
theorem okS_put {m : SI} {s : Str} {i : Int} (h : okS m) (hs : nameB s = true) (h0 : 0 ≤ i) (h1 : i ≤ 1000000) : okS (pS m s i) := fun p hp => by
  rcases mem_put hp with h2 | rfl
  · exact h p h2
  · exact ⟨hs, h0, h1⟩
theorem with_ok {m : SI} {ru : IV} {s : Str} {i : Int} (hk : (kS m).Nodup) (ho : okS m) (hl : m.length < 50) (hr : ruleP ru) (hs : nameB s = true) (h0 : 0 ≤ i) (h1 : i ≤ 1000000) :
    f_Setting_with_slowness n [objS (dS m) ru, .str s, .int i] cs = .ok (objS (dS (keptS (pS m s i))) ru) (cs ++ [.dead, .dead]) := by
  have e := fun cs => isName_ok (n := n) (cs := cs) (x := .str s) (nic_plain (by simp only [nic]; exact nicS_name hs))
  have e2 := fun cs => between_ok (n := n) (cs := cs) (lo := 0) (hi := 1000000) (x := .int i) rfl
  have hn : nameI (.str s) = true := hs
  have hw : wholeI (.int i) 0 1000000 = true := by simp [wholeI, h0, h1]
  have g : GD (dS (pS m s i)) cs (pS m s i) := ⟨.inl rfl, nd_put hk, okS_put ho hs h0 h1, by have := len_put (m := m) (s := s) (v := i); omega⟩
  obtain ⟨C, e3, e4⟩ := set_mk (n := n) g hr
  have e5 := eStar_ok (n := n) (cs := cs) (m := m) (s := s) (i := i) (mo := eFld "Setting" "own_slownesses" (eV 0)) (σ := [.v (objS (dS m) ru), .v (.str s), .v (.int i)]) (a := 1) (b := 2) (by simp [fldD]) rfl rfl (by omega)
  unfold f_Setting_with_slowness m_Setting_with_slowness
  simp [startI, List.replicate, e, hn, e2, hw, e5, fldR, e3, e4]
theorem eq_ok {a b : SI} {r1 r2 : Str} : f_Setting_eq n [objS (dS a) (.str r1), objS (dS b) (.str r2)] cs = .ok (.bl (decide (r1 = r2) && eqS a b)) cs := by
  have hi : ∀ cs, fIsC "Setting" cs [objS (dS b) (.str r2), .glb "Setting"] = some (.bl true) := fun _ => rfl
  unfold f_Setting_eq m_Setting_eq
  by_cases h : r1 = r2 <;> simp [startI, List.replicate, hi, fldR, fldD, h, dEq_kv]
theorem eq_no {d r y : IV} (h : ∀ cs, fIsC "Setting" cs [y, .glb "Setting"] = some (.bl false)) : f_Setting_eq n [objS d r, y] cs = .ok (.bl false) cs := by
  unfold f_Setting_eq m_Setting_eq
  simp [startI, List.replicate, h]
theorem eqR_ok {a b : SI} {r1 r2 : Str} : eqR "Setting" f_Setting_eq n (objS (dS a) (.str r1)) (objS (dS b) (.str r2)) cs = some (decide (r1 = r2) && eqS a b, cs) := by
  unfold eqR
  rw [if_pos ⟨rfl, rfl⟩, eq_ok]
theorem eqR_no {d r y : IV} (h : ∀ cs, isC "Setting" y cs = some false) : eqR "Setting" f_Setting_eq n (objS d r) y cs = some (false, cs) := by
  unfold eqR
  rw [if_pos ⟨rfl, by rw [h]; rfl⟩, eq_no (fun cs => by show (if ("Setting" : Str) = "Setting" then (isC "Setting" y cs).map IV.bl else none) = _; rw [if_pos rfl, h]; rfl)]
end
end K09

set_option Elab.async false
set_option linter.all false
set_option autoImplicit false
set_option maxRecDepth 100000
set_option maxHeartbeats 4000000
namespace K09
open PySem PySem.Spec L2 SL
open PyProof.Rows hiding St
theorem nic_lst {xs : List IV} (h : ∀ x ∈ xs, nic x = true ∧ noD x = true ∧ dpI x ≤ 5) : nic (.lst xs) = true ∧ noD (.lst xs) = true ∧ dpI (.lst xs) ≤ 6 := by
  refine ⟨?_, ?_, ?_⟩
  · simp only [nic]; exact nicL_iff.mpr fun x hx => (h x hx).1
  · simp only [noD]; exact noDL_iff.mpr fun x hx => (h x hx).2.1
  · have := dpL_le.mpr fun x hx => (h x hx).2.2
    simp only [dpI]; omega
theorem ne_of {x : IV} (h : nic x = true ∧ noD x = true ∧ dpI x ≤ 6) : cNe x x = some (.bl false) := nic_ne h.1 h.2.1 (Nat.le_trans h.2.2 (by decide))
theorem eq_of {x : IV} (h : nic x = true ∧ noD x = true ∧ dpI x ≤ 6) : cEq x x = some (.bl true) := nic_eq h.1 h.2.1 (Nat.le_trans h.2.2 (by decide))
theorem str_k {t : Str} (h : nicS t = true) : nic (.str t) = true ∧ noD (.str t) = true ∧ dpI (.str t) ≤ 5 := ⟨by simp only [nic]; exact h, rfl, by simp [dpI]⟩
def AllK (cs : List Cell) : Prop := ∀ c ∈ cs, noKC c = true
theorem noK_ints {ys : List Int} : noKL (intL ys) = true := noKL_iff.mpr fun x hx => by
  obtain ⟨i, _, rfl⟩ := List.mem_map.mp hx; rfl
theorem AllK.app {cs t : List Cell} (h : AllK cs) (ht : AllK t) : AllK (cs ++ t) := fun c hc => by
  rcases List.mem_append.mp hc with hc | hc
  · exact h c hc
  · exact ht c hc
theorem AllK.one {c : Cell} (h : noKC c = true) : AllK [c] := fun d hd => by rw [List.mem_singleton.mp hd]; exact h
theorem allK_dead2 : AllK [.dead, .dead] := fun c hc => by
  simp only [List.mem_cons, List.not_mem_nil, or_false, or_self] at hc
  rw [hc]; rfl
theorem AllK.set {cs : List Cell} (h : AllK cs) {k : Nat} {c : Cell} (hc : noKC c = true) : AllK (cs.set k c) := fun d hd => by
  rcases List.mem_or_eq_of_mem_set hd with z | rfl
  · exact h d z
  · exact hc
theorem AllK.dr {c : Nat} {cs cs' : List Cell} (h : AllK cs) (g : Good c cs') (d : Dr c cs cs') : AllK cs' := fun x hx => by
  obtain ⟨j, hj⟩ := List.getElem?_of_mem hx
  by_cases e : j = c
  · obtain ⟨ys, k, _, hc⟩ := g
    rw [e, hc] at hj
    cases hj
    show noKL [.lst (intL ys), .int k] = true
    simp only [noKL, noK, noK_ints, Bool.and_self]
  · rw [d.o j e] at hj
    exact h x (List.mem_of_getElem? hj)
theorem put_at {cs : List Cell} {d : Nat} {s : Str} {i : Int} {m : SI} (hd : cs[d]? = some (cellS m)) (h : m.length < 1000000) : dputI (.cell d) (.str s) (.int i) cs = some (cs.set d (cellS (pS m s i))) := by
  unfold dputI
  dsimp only
  rw [hd]
  unfold cellS
  dsimp only
  rw [if_pos (by show _ < 1000000; simpa using h), zip_kv]
  show some (List.set _ _ _) = _
  rw [putG_kv]
  unfold kvI
  simp only [List.map_map]
  rfl
def partsL : List Str := ["abcdefgh", "p", "q", "zz", "other"]
theorem parts_name : ∀ s ∈ partsL, nameB s = true := by
  have : (partsL.all nameB) = true := by decide +kernel
  exact fun s hs => List.all_eq_true.mp this s hs
/-- slownesses as the law keeps them -/
structure DP (d : SI) : Prop where
  nd : (kS d).Nodup
  ok : okS d
  pa : ∀ s ∈ kS d, s ∈ partsL
theorem DP.len {d : SI} (h : DP d) : d.length ≤ 5 := by
  have := len_le h.nd h.pa
  unfold kS at this
  simpa [partsL] using this
theorem DP.put {d : SI} {s : Str} {i : Int} (h : DP d) (hs : s ∈ partsL) (h0 : 0 ≤ i) (h1 : i ≤ 1000000) : DP (pS d s i) := ⟨nd_put h.nd, okS_put h.ok (parts_name s hs) h0 h1, fun t ht => by
  rw [kS_put] at ht
  split at ht
  · exact h.pa t ht
  · rcases List.mem_append.mp ht with ht | ht
    · exact h.pa t ht
    · rw [List.mem_singleton.mp ht]; exact hs⟩
theorem DP.gd {d : SI} (h : DP d) {cs : List Cell} : GD (dS d) cs d := ⟨.inl rfl, h.nd, h.ok, by have := h.len; omega⟩
/-- what the setting keeps of them -/
structure KP (m d : SI) : Prop where
  k : Kept m
  g : ∀ s, gS m s = gS d s
  ok : okS m
theorem kept_kp {d : SI} (h : okS d) : KP (keptS d) d := ⟨keepS_kept, keepS_g fun s hs => srt_mem.mpr hs, fun p hp => h p (keepS_mem hp)⟩
theorem KP.len {m d : SI} (h : KP m d) (hd : DP d) : m.length ≤ 5 := by
  have := len_le (A := kS m) (B := partsL) h.k.nd fun s hs => by
    obtain ⟨p, hp, rfl⟩ := List.mem_map.mp hs
    have h2 := (gS_mem h.k hp).2
    rw [h.g] at h2
    refine hd.pa _ ?_
    cases e : lS d p.1 with
    | none => unfold gS at h2; rw [e] at h2; exact absurd rfl h2
    | some v => exact List.mem_map_of_mem (f := (·.1)) (lS_mem e)
  unfold kS at this
  simpa [partsL] using this
/-! ### the drawn slownesses -/
def slowM : SM := sIf (mB (e2 cEq (eFn f__law_draw 2 [] (aCons (eV 0) (aCons (M.pure (.int 2)) (aNil)))) (M.pure (.int 0)))) (sDPutI (eV 1) (eV 2) (e2c ixI (eLst (aCons (M.pure (.int 0)) (aCons (M.pure (.int 1)) (aCons (eFn f__law_draw 2 [] (aCons (eV 0) (aCons (M.pure (.int 420)) (aNil)))) (aCons (e2 bPow (M.pure (.int 10)) (M.pure (.int 6))) (aNil)))))) (eFn f__law_draw 2 [] (aCons (eV 0) (aCons (M.pure (.int 4)) (aNil)))))) (sNext)
theorem slow_eq : m__law_slow = sSeq (sSet 1 eDis0) (sSeq (sFor (mIt (eLst (aCons (M.pure (.str "q")) (aCons (M.pure (.str "p")) (aCons (M.pure (.str "abcdefgh")) (aCons (M.pure (.str "zz")) (aNil))))))) (gmN 2) slowM) (sRet (eFrz (eV 1)))) := rfl
section
variable {n c : Nat} {cs : List Cell}
theorem drw3 {many : Int} (hg : Good c cs) (hk : AllK cs) (hm : 0 < many) : ∃ r cs', f__law_draw n [.cell c, .int many] cs = .ok (.int r) cs' ∧ Good c cs' ∧ Dr c cs cs' ∧ AllK cs' ∧ 0 ≤ r ∧ r < many := by
  obtain ⟨r, cs', h1, h2, h3, h4⟩ := draw_dr (n := n) hg hm
  exact ⟨r, cs', h1, h2, h3, hk.dr h2 h3, h4⟩
theorem ixL {xs : List IV} {i : Int} : ∀ cs, ixI cs (.lst xs) (.int i) = atI xs i := fun _ => rfl
theorem slow_body {d : Nat} {m : SI} {s : Str} {b : SV} (hg : Good c cs) (hk : AllK cs) (hd : cs[d]? = some (cellS m)) (hcd : d ≠ c) (hm : DP m) (hs : s ∈ partsL) :
    ∃ cs' m', slowM n [.v (.cell c), .v (.cell d), .v (.str s)] cs = .next [.v (.cell c), .v (.cell d), .v (.str s)] cs' ∧ Good c cs' ∧ AllK cs' ∧ cs'[d]? = some (cellS m') ∧ DP m' := by
  obtain ⟨r, c1, e1, g1, d1, k1, _, _⟩ := drw3 (n := n) hg hk (many := 2) (by decide)
  unfold slowM
  by_cases h0 : r = 0
  · obtain ⟨a, c2, e2, g2, d2, k2, a0, a1⟩ := drw3 (n := n) g1 k1 (many := 420) (by decide)
    obtain ⟨z, c3, e3, g3, d3, k3, z0, z1⟩ := drw3 (n := n) g2 k2 (many := 4) (by decide)
    have hd3 : c3[d]? = some (cellS m) := by rw [d3.o d hcd, d2.o d hcd, d1.o d hcd]; exact hd
    obtain ⟨i, ei, i0, i1⟩ : ∃ i, atI [IV.int 0, .int 1, .int a, .int 1000000] z = some (.int i) ∧ 0 ≤ i ∧ i ≤ 1000000 := by
      obtain ⟨y, hy, e⟩ := atI_mem (xs := [IV.int 0, .int 1, .int a, .int 1000000]) z0 (by simpa using z1)
      simp only [List.mem_cons, List.not_mem_nil, or_false] at hy
      rcases hy with rfl | rfl | rfl | rfl
      · exact ⟨_, e, by omega, by omega⟩
      · exact ⟨_, e, by omega, by omega⟩
      · exact ⟨_, e, by omega, by omega⟩
      · exact ⟨_, e, by omega, by omega⟩
    have hp := put_at (s := s) (i := i) hd3 (by have := hm.len; omega)
    have hdl := (List.getElem?_eq_some_iff.mp hd3).1
    refine ⟨c3.set d (cellS (pS m s i)), pS m s i, ?_, ?_, k3.set noKC_cellS, List.getElem?_set_self hdl, hm.put hs i0 i1⟩
    · simp [e1, h0, e2, e3, p6, ixL, ei, hp]
    · obtain ⟨ys, k, h1, h2⟩ := g3
      exact ⟨ys, k, h1, by rw [List.getElem?_set_ne hcd]; exact h2⟩
  · refine ⟨c1, m, ?_, g1, k1, by rw [d1.o d hcd]; exact hd, hm⟩
    simp [e1, h0]
theorem slow_ok (hg : Good c cs) (hk : AllK cs) : ∃ cs' m, f__law_slow n [.cell c] cs = .ok (dS m) cs' ∧ Good c cs' ∧ AllK cs' ∧ DP m := by
  have hc := (List.getElem?_eq_some_iff.mp hg.choose_spec.choose_spec.2).1
  have hcd : cs.length ≠ c := by omega
  obtain ⟨σ', cs', e, ⟨b, rfl⟩, g2, k2, m, hm, hp⟩ := for_inv (gm := gmN 2) (b := slowM) (n := n) (fun σ cs' => (∃ b, σ = [.v (.cell c), .v (.cell cs.length), b]) ∧ Good c cs' ∧ AllK cs' ∧ ∃ m, cs'[cs.length]? = some (cellS m) ∧ DP m) [.str "q", .str "p", .str "abcdefgh", .str "zz"] [.v (.cell c), .v (.cell cs.length), .un] (cs ++ [.dct [] []]) (fun x hx σ cs' hi => by
    obtain ⟨⟨b, rfl⟩, g, k, m, hm, hp⟩ := hi
    obtain ⟨s, rfl, hs⟩ : ∃ s, x = .str s ∧ s ∈ partsL := by
      simp only [List.mem_cons, List.not_mem_nil, or_false] at hx
      rcases hx with rfl | rfl | rfl | rfl <;> exact ⟨_, rfl, by simp [partsL]⟩
    obtain ⟨c4, m4, h1, h2, h3, h4, h5⟩ := slow_body (n := n) (b := b) g k hm hcd hp hs
    exact ⟨_, _, _, rfl, h1, ⟨_, rfl⟩, h2, h3, m4, h4, h5⟩) ⟨⟨_, rfl⟩, by
      obtain ⟨ys, k, h1, h2⟩ := hg
      exact ⟨ys, k, h1, by rw [List.getElem?_append_left hc]; exact h2⟩, hk.app (.one rfl), [], get_at, ⟨List.nodup_nil, (fun p h => by cases h), fun s h => by cases h⟩⟩
  have hl : cs.length < cs'.length := (List.getElem?_eq_some_iff.mp hm).1
  have hf : frzV (.cell cs.length) cs' = (dS m, cs'.set cs.length .dead) := frzV_dct hm
  have hseq : ∀ l : List IV, seqI (.lst l) = some l := fun _ => rfl
  refine ⟨cs'.set cs.length .dead, m, ?_, ?_, k2.set rfl, hp⟩
  · unfold f__law_slow
    rw [slow_eq]
    simp [startI, List.replicate, hseq, e, hf]
  · obtain ⟨ys, k, h1, h2⟩ := g2
    exact ⟨ys, k, h1, by rw [List.getElem?_set_ne hcd]; exact h2⟩
end
/-! ### one case -/
def partsI : IV := .lst [.str "abcdefgh", .str "p", .str "q", .str "zz", .str "other"]
def askM (i : Nat) : M IV := eLc (mIt (eV 3)) (gmN 11) (M.pure true) (eMeth "Setting" "slowness" f_Setting_slowness 2 [] (eV i) (aCons (eV 11) (aNil))) [11]
def dueM : M IV := eLc (mIt (eV 3)) (gmN 11) (M.pure true) (eGetD (eV 8) (eV 11) (M.pure (.int 1))) [11]
def turnM : SM := sSeq (sPar 11 12 (e2c ixI (eV 3) (eFn f__law_draw 2 [] (aCons (eV 0) (aCons (M.pure (.int 5)) (aNil))))) (e2c ixI (eLst (aCons (M.pure (.int 0)) (aCons (M.pure (.int 1)) (aCons (e2 bPow (M.pure (.int 10)) (M.pure (.int 6))) (aCons (eFn f__law_draw 2 [] (aCons (eV 0) (aCons (M.pure (.int 9)) (aNil)))) (aNil)))))) (eFn f__law_draw 2 [] (aCons (eV 0) (aCons (M.pure (.int 4)) (aNil)))))) (sSeq (sSet 10 (eMeth "Setting" "with_slowness" f_Setting_with_slowness 3 [] (eV 2) (aCons (eV 11) (aCons (eV 12) (aNil))))) (sSeq (sIf (mOr (mB (e2 cNe (eMeth "Setting" "slowness" f_Setting_slowness 2 [] (eV 10) (aCons (eV 11) (aNil))) (eV 12))) (mOr (mB (e2 cNe (eProp "Setting" "rule" f_Setting_rule (eV 10)) (eV 9))) (mB (e2 cNe (eMeth "Setting" "slowness" f_Setting_slowness 2 [] (eV 2) (aCons (eV 11) (aNil))) (eGetD (eV 8) (eV 11) (M.pure (.int 1))))))) (sRet (M.pure (.bl false))) (sNext)) (sSeq (sIf (mB (e2 cNe (eqC "Setting" f_Setting_eq false (eV 10) (eV 2)) (e2 cEq (eGetD (eV 8) (eV 11) (M.pure (.int 1))) (eV 12)))) (sRet (M.pure (.bl false))) (sNext)) (sAsg (gmTup 2 (gmCons (gmN 2) (gmCons (gmN 8) (gmNil)))) (eTup (aCons (eV 10) (aCons (eFrz (eCallN fDict (aCons (e2 bAdd (eItems (eV 8)) (eLst (aCons (eTup (aCons (eV 11) (aCons (eV 12) (aNil)))) (aNil)))) (aNil)))) (aNil))))))))
def setM (a b : M IV) : M IV := eFrz (eMkK "Setting" f_Setting_init 3 1 1 [] (aCons a (aNil)) (aCons b (aNil)))
def tailM : SM := sSeq (sSet 6 (eFrz (eCallN fDict (aCons (e2 bAdd (eRev (eItems (eV 8))) (eLst (aCons (eTup (aCons (M.pure (.str "spare")) (aCons (M.pure (.int 1)) (aNil)))) (aNil)))) (aNil))))) (sSeq (sIf (mOr (mNot (mB (eqC "Setting" f_Setting_eq false (eV 2) (setM (eV 6) (eV 9))))) (mB (eqC "Setting" f_Setting_eq true (eV 2) (setM (eV 6) (eV 9))))) (sRet (M.pure (.bl false))) (sNext)) (sSeq (sSet 7 (setM (eV 8) (e2c ixI (eLst (aCons (M.pure (.str "turn")) (aCons (M.pure (.str "number")) (aNil)))) (eCall fInt (aCons (e2 cEq (eV 9) (M.pure (.str "turn"))) (aNil)))))) (sSeq (sIf (mB (eqC "Setting" f_Setting_eq false (eV 2) (eV 7))) (sRet (M.pure (.bl false))) (sNext)) (sRet (e2 cEq (eLc (mIt (eLst (aCons (M.pure .non) (aCons (eV 8) (aCons (eV 9) (aCons (M.pure (.int 5)) (aNil))))))) (gmN 13) (mB (eqC "Setting" f_Setting_eq false (eV 2) (eV 13))) (eV 13) [13]) (eLst (aNil)))))))
theorem right_eq : m__law_right = sSeq (sAsg (gmTup 2 (gmCons (gmN 8) (gmCons (gmN 9) (gmNil)))) (eTup (aCons (eFn f__law_slow 1 [] (aCons (eV 0) (aNil))) (aCons (e2c ixI (eLst (aCons (M.pure (.str "turn")) (aCons (M.pure (.str "number")) (aNil)))) (eFn f__law_draw 2 [] (aCons (eV 0) (aCons (M.pure (.int 2)) (aNil))))) (aNil))))) (sSeq (sSet 1 (eCallN fDict (aCons (eV 8) (aNil)))) (sSeq (sSet 2 (setM (eV 1) (eV 9))) (sSeq (sDPutI (eV 1) (M.pure (.str "p")) (M.pure (.int 77))) (sSeq (sSet 3 (eLst (aCons (M.pure (.str "abcdefgh")) (aCons (M.pure (.str "p")) (aCons (M.pure (.str "q")) (aCons (M.pure (.str "zz")) (aCons (M.pure (.str "other")) (aNil)))))))) (sSeq (sSet 4 (askM 2)) (sSeq (sIf (mOr (mB (e2 cNe (eProp "Setting" "rule" f_Setting_rule (eV 2)) (eV 9))) (mB (e2 cNe (eV 4) dueM))) (sRet (M.pure (.bl false))) (sNext)) (sSeq (sFor (mRg1 (aCons (M.pure (.int 6)) (aNil))) (gmN 5) turnM) tailM))))))) := rfl
theorem cne_bl {a b : Bool} : cNe (.bl a) (.bl b) = some (.bl (a != b)) := by cases a <;> cases b <;> kernel_rfl
theorem isSl {d r : IV} : ∀ cs, isIn "Setting" "slowness" (objS d r) cs = true := fun _ => by unfold isIn insI objS; dsimp only; decide +kernel
theorem isWi {d r : IV} : ∀ cs, isIn "Setting" "with_slowness" (objS d r) cs = true := fun _ => by unfold isIn insI objS; dsimp only; decide +kernel
theorem isRu {d r : IV} : ∀ cs, isIn "Setting" "rule" (objS d r) cs = true := fun _ => by unfold isIn insI objS; dsimp only; decide +kernel
section
variable {n c : Nat} {cs : List Cell} {σ : List SV} {x1 x2 x3 x4 x5 x6 x7 x8 x9 x10 x11 x12 x13 : SV}
theorem setM_ok {a b : M IV} {x : IV} {m : SI} {r : Str} {cs1 : List Cell} (ha : a n σ cs = .ok x cs1) (hb : b n σ cs1 = .ok (.str r) cs1) (g : GD x cs1 m) (hr : ruleP (.str r)) : setM a b n σ cs = .ok (objS (dS (keptS m)) (.str r)) (cs1 ++ [.dead, .dead]) := by
  obtain ⟨C, e1, e2⟩ := set_mk (n := n) g hr
  unfold setM
  simp [ha, hb, e1, e2]
theorem parts_seq : seqI partsI = some (partsL.map IV.str) := rfl
theorem part_nic {s : Str} (h : s ∈ partsL) : nameB s = true := parts_name s h
theorem told_ok {m d : SI} {r : IV} (h : ∀ s, gS m s = gS d s) : askM 2 n [.v (.cell c), x1, .v (objS (dS m) r), .v partsI, x4, x5, x6, x7, .v (dS d), x9, x10, x11, x12, x13] cs = .ok (.lst (partsL.map fun s => .int (gS d s))) cs := by
  have hc := cmp_pure (n := n) (cs := cs) (gm := gmN 11) (mt := M.pure true) (me := eMeth "Setting" "slowness" f_Setting_slowness 2 [] (eV 2) (aCons (eV 11) (aNil))) (σ := [.v (.cell c), x1, .v (objS (dS m) r), .v partsI, x4, x5, x6, x7, .v (dS d), x9, x10, .un, x12, x13]) (fun _ => true) (fun y => match y with | .str s => .int (gS d s) | _ => .non) (partsL.map IV.str) [] (by decide) (fun y hy => by
    obtain ⟨s, hs, rfl⟩ := List.mem_map.mp hy
    have e := fun cs => slo_ok (n := n) (cs := cs) (m := m) (r := r) (part_nic hs)
    exact ⟨[.v (.cell c), x1, .v (objS (dS m) r), .v partsI, x4, x5, x6, x7, .v (dS d), x9, x10, .v (.str s), x12, x13], rfl, rfl, fun _ => by simp [isSl, e, h]⟩)
  rw [List.filter_eq_self.mpr (by simp), List.map_map, List.nil_append] at hc
  unfold askM
  simp [parts_seq, wipeI, hc]
  try rfl
theorem due_ok {d : SI} : dueM n [.v (.cell c), x1, x2, .v partsI, x4, x5, x6, x7, .v (dS d), x9, x10, x11, x12, x13] cs = .ok (.lst (partsL.map fun s => .int (gS d s))) cs := by
  have hc := cmp_pure (n := n) (cs := cs) (gm := gmN 11) (mt := M.pure true) (me := eGetD (eV 8) (eV 11) (M.pure (.int 1))) (σ := [.v (.cell c), x1, x2, .v partsI, x4, x5, x6, x7, .v (dS d), x9, x10, .un, x12, x13]) (fun _ => true) (fun y => match y with | .str s => .int (gS d s) | _ => .non) (partsL.map IV.str) [] (by decide) (fun y hy => by
    obtain ⟨s, hs, rfl⟩ := List.mem_map.mp hy
    exact ⟨[.v (.cell c), x1, x2, .v partsI, x4, x5, x6, x7, .v (dS d), x9, x10, .v (.str s), x12, x13], rfl, rfl, fun _ => by simp [dc_dS, dg_dS]⟩)
  rw [List.filter_eq_self.mpr (by simp), List.map_map, List.nil_append] at hc
  unfold dueM
  simp [parts_seq, wipeI, hc]
  try rfl
theorem gS_bd {d : SI} (h : okS d) (s : Str) : 0 ≤ gS d s ∧ gS d s ≤ 1000000 := by
  unfold gS
  cases e : lS d s with
  | none => decide
  | some v => exact (h _ (lS_mem e)).2
theorem told_ne {d : SI} (h : okS d) : cNe (.lst (partsL.map fun s => .int (gS d s))) (.lst (partsL.map fun s => .int (gS d s))) = some (.bl false) := ne_of (nic_lst fun x hx => by
  obtain ⟨s, _, rfl⟩ := List.mem_map.mp hx
  have := gS_bd h s
  exact ⟨by simp only [nic, decide_eq_true_eq]; omega, rfl, by simp [dpI]⟩)
theorem items_ok {d : SI} (h : d.length ≤ 1000) : ∀ cs, lisI (dS d) cs = some (.lst ((kvI d).map fun p => .tup [kI p.1, p.2])) := fun cs => by
  show (if _ then _ else _) = _
  rw [if_pos ⟨by simp, by show _ ≤ 1000000; simp; omega⟩, zip_kv]
theorem prsT_map : ∀ (l : List (Key × IV)), prsT (l.map fun p => .tup [kI p.1, p.2]) = some l
  | [] => rfl
  | (k, x) :: l => by
    have : prsT (.tup [kI k, x] :: (l.map fun p => .tup [kI p.1, p.2])) = some ((k, x) :: l) := by
      unfold prsT
      rw [keyI_kI, prsT_map l]
    exact this
theorem frz_cellS {cs : List Cell} {m : SI} : frzV (.cell cs.length) (cs ++ [cellS m]) = (dS m, cs ++ [.dead]) := by
  have hz : frzV (.cell cs.length) (cs ++ [cellS m]) = (dS m, (cs ++ [cellS m]).set cs.length .dead) := frzV_dct get_at
  rw [hz, set_at]
theorem cellD_kv {m : SI} : cellD (kvI m) = cellS m := by
  unfold cellD cellS kvI
  simp only [List.map_map]
  rfl
theorem dict_one {d : SI} {s : Str} {i : Int} (h : (kS d).Nodup) : ∀ cs, fDict cs [.lst (((kvI d).map fun p => .tup [kI p.1, p.2]) ++ [.tup [.str s, .int i]])] = some (cellS (pS d s i)) := fun cs => by
  have e : ((kvI d).map fun p => IV.tup [kI p.1, p.2]) ++ [.tup [.str s, .int i]] = (kvI d ++ [((.inr s : Key), IV.int i)]).map fun p => .tup [kI p.1, p.2] := by
    rw [List.map_append]; rfl
  show (prsT _).map _ = _
  rw [e, prsT_map]
  show some (cellD (mergeG [] _)) = _
  rw [merge_one h, cellD_kv]
theorem turn_ok {m d : SI} {r : Str} (hg : Good c cs) (hk : AllK cs) (hm : KP m d) (hd : DP d) (hr : ruleP (.str r)) :
    ∃ cs' m' d' y10 y11 y12, turnM n [.v (.cell c), x1, .v (objS (dS m) (.str r)), .v partsI, x4, x5, x6, x7, .v (dS d), .v (.str r), x10, x11, x12, x13] cs = .next [.v (.cell c), x1, .v (objS (dS m') (.str r)), .v partsI, x4, x5, x6, x7, .v (dS d'), .v (.str r), y10, y11, y12, x13] cs' ∧ Good c cs' ∧ AllK cs' ∧ KP m' d' ∧ DP d' := by
  obtain ⟨a, c1, e1, g1, d1, k1, a0, a1⟩ := drw3 (n := n) hg hk (many := 5) (by decide)
  obtain ⟨b, c2, e2, g2, d2, k2, b0, b1⟩ := drw3 (n := n) g1 k1 (many := 9) (by decide)
  obtain ⟨z, c3, e3, g3, d3, k3, z0, z1⟩ := drw3 (n := n) g2 k2 (many := 4) (by decide)
  obtain ⟨s, es, hs⟩ : ∃ s, atI (partsL.map IV.str) a = some (.str s) ∧ s ∈ partsL := by
    obtain ⟨y, hy, e⟩ := atI_mem (xs := partsL.map IV.str) a0 (by simpa [partsL] using a1)
    obtain ⟨s, hs, rfl⟩ := List.mem_map.mp hy
    exact ⟨s, e, hs⟩
  have hpi : ∀ cs i, ixI cs partsI (.int i) = atI (partsL.map IV.str) i := fun _ _ => rfl
  obtain ⟨i, ei, i0, i1⟩ : ∃ i, atI [IV.int 0, .int 1, .int 1000000, .int b] z = some (.int i) ∧ 0 ≤ i ∧ i ≤ 1000000 := by
    obtain ⟨y, hy, e⟩ := atI_mem (xs := [IV.int 0, .int 1, .int 1000000, .int b]) z0 (by simpa using z1)
    simp only [List.mem_cons, List.not_mem_nil, or_false] at hy
    rcases hy with rfl | rfl | rfl | rfl <;> exact ⟨_, e, by omega, by omega⟩
  have hn := parts_name s hs
  have hl := hm.len hd
  have w := with_ok (n := n) (cs := c3) (m := m) (ru := .str r) (s := s) (i := i) hm.k.nd hm.ok (by omega) hr hn i0 i1
  have kp : KP (keptS (pS m s i)) (pS d s i) := by
    have := kept_kp (d := pS m s i) (okS_put hm.ok hn i0 i1)
    exact ⟨this.k, fun t => by rw [this.g, gS_put, gS_put, hm.g], this.ok⟩
  have dp := hd.put hs i0 i1
  have q1 := fun cs => slo_ok (n := n) (cs := cs) (m := keptS (pS m s i)) (r := .str r) hn
  have q2 := fun cs => slo_ok (n := n) (cs := cs) (m := m) (r := .str r) hn
  have hgs : gS (keptS (pS m s i)) s = i := by rw [kp.g, gS_put, if_pos rfl]
  have hru := fun cs d => rule_ok (n := n) (cs := cs) (d := d) (r := .str r)
  have heq : eqS (keptS (pS m s i)) m = decide (gS d s = i) := by
    by_cases h : gS d s = i
    · rw [decide_eq_true h]
      exact eqS_true kp.k hm.k fun t => by
        rw [kp.g, gS_put, hm.g]
        split
        · rename_i e; rw [e, h]
        · rfl
    · rw [decide_eq_false h]
      exact eqS_false kp.k hm.k (s := s) (by rw [hgs, hm.g]; exact fun z => h z.symm)
  have hE := fun cs => eqR_ok (n := n) (cs := cs) (a := keptS (pS m s i)) (b := m) (r1 := r) (r2 := r)
  have hD := dict_one (d := d) (s := s) (i := i) hd.nd
  have hI := items_ok (d := d) (by have := hd.len; omega)
  have hA : bAdd (.lst ((kvI d).map fun p => .tup [kI p.1, p.2])) (.lst [.tup [.str s, .int i]]) = some (.lst (((kvI d).map fun p => .tup [kI p.1, p.2]) ++ [.tup [.str s, .int i]])) := if_pos (by
    have := hd.len
    show _ ≤ 1000000
    unfold kvI
    simp; omega)
  have hfz : ∀ cs, frzV (.cell cs.length) (cs ++ [cellS (pS d s i)]) = (dS (pS d s i), cs ++ [.dead]) := fun cs => frz_cellS
  refine ⟨c3 ++ [.dead, .dead] ++ [.dead], keptS (pS m s i), pS d s i, .v (objS (dS (keptS (pS m s i))) (.str r)), .v (.str s), .v (.int i), ?_, ?_, (k3.app allK_dead2).app (.one rfl), kp, dp⟩
  · unfold turnM
    have hz : frzV (.cell (c3.length + 2)) (c3 ++ [Cell.dead, Cell.dead, cellS (pS d s i)]) = (dS (pS d s i), c3 ++ [Cell.dead, Cell.dead, Cell.dead]) := by
      have := frz_cellS (cs := c3 ++ [Cell.dead, Cell.dead]) (m := pS d s i)
      simpa using this
    simp [e1, hpi, es, p6, e2, e3, ixL, ei, isWi, w, isSl, q1, q2, hgs, isRu, hru, dc_dS, dg_dS, hm.g, hE, heq, cne_bl, hI, hA, hD, hz]
  · obtain ⟨ys, k, h1, h2⟩ := g3
    exact ⟨ys, k, h1, by rw [List.append_assoc, List.getElem?_append_left (List.getElem?_eq_some_iff.mp h2).1]; exact h2⟩
theorem tail_ok {m d : SI} {r : Str} (hm : KP m d) (hd : DP d) (hr : ruleP (.str r)) :
    ∃ cs', tailM n [.v (.cell c), x1, .v (objS (dS m) (.str r)), .v partsI, x4, x5, x6, x7, .v (dS d), .v (.str r), x10, x11, x12, x13] cs = .ret (.bl true) cs' ∧ ∃ t, cs' = cs ++ t ∧ AllK t := by
  have hnd : (kS d.reverse).Nodup := by rw [kS_rev]; exact (List.reverse_perm _).nodup_iff.mpr hd.nd
  have hD := dict_one (d := d.reverse) (s := "spare") (i := 1) hnd
  have hI := items_ok (d := d) (by have := hd.len; omega)
  have hR : revI (.lst ((kvI d).map fun p => .tup [kI p.1, p.2])) = some (.lst ((kvI d.reverse).map fun p => .tup [kI p.1, p.2])) := by
    rw [← kv_rev, List.map_reverse]; rfl
  have hA : bAdd (.lst ((kvI d.reverse).map fun p => .tup [kI p.1, p.2])) (.lst [.tup [.str "spare", .int 1]]) = some (.lst (((kvI d.reverse).map fun p => .tup [kI p.1, p.2]) ++ [.tup [.str "spare", .int 1]])) := if_pos (by
    have := hd.len
    show _ ≤ 1000000
    unfold kvI
    simp; omega)
  have hfz : ∀ cs, frzV (.cell cs.length) (cs ++ [cellS (pS d.reverse "spare" 1)]) = (dS (pS d.reverse "spare" 1), cs ++ [.dead]) := fun cs => frz_cellS
  have hsp : nameB "spare" = true := by decide +kernel
  have hrev : okS d.reverse := fun p hp => hd.ok p (List.mem_reverse.mp hp)
  have hok : okS (pS d.reverse "spare" 1) := okS_put hrev hsp (by decide) (by decide)
  have hlen : (pS d.reverse "spare" 1).length ≤ 6 := by
    have h1 := len_put (m := d.reverse) (s := "spare") (v := 1)
    have h2 := hd.len
    rw [List.length_reverse] at h1
    omega
  have g1 : ∀ cs, GD (dS (pS d.reverse "spare" 1)) cs (pS d.reverse "spare" 1) := fun cs => ⟨.inl rfl, nd_put hnd, hok, by omega⟩
  have kp := kept_kp (d := pS d.reverse "spare" 1) hok
  have hnp : ("spare" : Str) ∉ kS d := fun z => absurd (hd.pa _ z) (by decide +kernel)
  have hall : ∀ s, gS (keptS (pS d.reverse "spare" 1)) s = gS m s := fun s => by
    rw [kp.g, gS_put, hm.g]
    split
    · rename_i e
      subst e
      unfold gS
      rw [lS_none.mpr hnp]; rfl
    · unfold gS; rw [lS_rev hd.nd]
  have E1 : eqS m (keptS (pS d.reverse "spare" 1)) = true := eqS_true hm.k kp.k fun s => (hall s).symm
  have s1 := fun cs (σ : List SV) (h6 : σ[6]? = some (.v (dS (pS d.reverse "spare" 1)))) (h9 : σ[9]? = some (.v (.str r))) => setM_ok (n := n) (cs := cs) (cs1 := cs) (σ := σ) (a := eV 6) (b := eV 9) (x := dS (pS d.reverse "spare" 1)) (r := r) (by simp [h6]) (by simp [h9]) (g1 cs) hr
  have hE := fun cs => eqR_ok (n := n) (cs := cs) (a := m) (b := keptS (pS d.reverse "spare" 1)) (r1 := r) (r2 := r)
  obtain ⟨r2, hr2, ho, hrr⟩ : ∃ r2, ruleP (.str r2) ∧ (∀ cs, ixI cs (.lst [.str "turn", .str "number"]) (.int (if r = "turn" then 1 else 0)) = some (.str r2)) ∧ decide (r = r2) = false := by
    rcases hr with h | h
    · cases h
      exact ⟨"number", .inr rfl, fun _ => by rw [if_pos rfl]; rfl, by decide +kernel⟩
    · cases h
      exact ⟨"turn", .inl rfl, fun _ => by rw [if_neg (by decide +kernel)]; rfl, by decide +kernel⟩
  have hIn : ∀ cs, fInt cs [.bl (decide (r = "turn"))] = some (.int (if r = "turn" then 1 else 0)) := fun cs => by
    by_cases h : r = "turn" <;> simp [h] <;> rfl
  have s2 := fun cs (σ : List SV) (h8 : σ[8]? = some (.v (dS d))) (h9 : σ[9]? = some (.v (.str r))) => setM_ok (n := n) (cs := cs) (cs1 := cs) (σ := σ) (a := eV 8) (b := e2c ixI (eLst (aCons (M.pure (.str "turn")) (aCons (M.pure (.str "number")) (aNil)))) (eCall fInt (aCons (e2 cEq (eV 9) (M.pure (.str "turn"))) (aNil)))) (x := dS d) (r := r2) (by simp [h8]) (by simp [h9, hIn, ho]) hd.gd hr2
  have hE2 := fun cs => eqR_ok (n := n) (cs := cs) (a := m) (b := keptS d) (r1 := r) (r2 := r2)
  have hNo := fun cs y (h : ∀ cs, isC "Setting" y cs = some false) => eqR_no (n := n) (cs := cs) (d := dS m) (r := .str r) h
  have hc := fun cs => cmp_pure (n := n) (cs := cs) (gm := gmN 13) (mt := mB (eqC "Setting" f_Setting_eq false (eV 2) (eV 13))) (me := eV 13) (σ := [.v (.cell c), x1, .v (objS (dS m) (.str r)), .v partsI, x4, x5, .v (dS (pS d.reverse "spare" 1)), .v (objS (dS (keptS d)) (.str r2)), .v (dS d), .v (.str r), x10, x11, x12, .un]) (fun _ => false) (fun y => y) [.non, dS d, .str r, .int 5] [] (by simp) (fun y hy => by
    refine ⟨[.v (.cell c), x1, .v (objS (dS m) (.str r)), .v partsI, x4, x5, .v (dS (pS d.reverse "spare" 1)), .v (objS (dS (keptS d)) (.str r2)), .v (dS d), .v (.str r), x10, x11, x12, .v y], rfl, ?_, fun z => by cases z⟩
    have : ∀ cs, isC "Setting" y cs = some false := by
      simp only [List.mem_cons, List.not_mem_nil, or_false] at hy
      rcases hy with rfl | rfl | rfl | rfl <;> exact fun _ => rfl
    simp [hNo _ _ this])
  have hseq : ∀ l : List IV, seqI (.lst l) = some l := fun _ => rfl
  refine ⟨cs ++ [.dead] ++ [.dead, .dead] ++ [.dead, .dead] ++ [.dead, .dead], ?_, ⟨[.dead] ++ [.dead, .dead] ++ [.dead, .dead] ++ [.dead, .dead], by simp, (((AllK.one rfl).app allK_dead2).app allK_dead2).app allK_dead2⟩⟩
  unfold tailM
  simp [hI, hR, hA, hD, hfz, s1, hE, E1, s2, hE2, hrr, hseq, wipeI, hc]
theorem right_ok (hg : Good c cs) (hk : AllK cs) : ∃ cs', f__law_right n [.cell c] cs = .ok (.bl true) cs' ∧ AllK cs' := by
  obtain ⟨c1, d, e1, g1, k1, hd⟩ := slow_ok (n := n) hg hk
  obtain ⟨b, c2, e2, g2, d2, k2, b0, b1⟩ := drw3 (n := n) g1 k1 (many := 2) (by decide)
  obtain ⟨r, er, hr⟩ : ∃ r, atI [IV.str "turn", .str "number"] b = some (.str r) ∧ ruleP (.str r) := by
    obtain ⟨y, hy, e⟩ := atI_mem (xs := [IV.str "turn", .str "number"]) b0 (by simpa using b1)
    simp only [List.mem_cons, List.not_mem_nil, or_false] at hy
    rcases hy with rfl | rfl
    · exact ⟨_, e, .inl rfl⟩
    · exact ⟨_, e, .inr rfl⟩
  have hD : ∀ cs, fDict cs [dS d] = some (cellS d) := fun _ => rfl
  have k3 : AllK (c2 ++ [cellS d]) := k2.app (.one noKC_cellS)
  have g3 : GD (.cell c2.length) (c2 ++ [cellS d]) d := ⟨.inr ⟨_, rfl, get_at, k3⟩, hd.nd, hd.ok, by have := hd.len; omega⟩
  have s1 := fun (σ : List SV) (h1 : σ[1]? = some (.v (.cell c2.length))) (h9 : σ[9]? = some (.v (.str r))) => setM_ok (n := n) (cs := c2 ++ [cellS d]) (cs1 := c2 ++ [cellS d]) (σ := σ) (a := eV 1) (b := eV 9) (x := .cell c2.length) (r := r) (by simp [h1]) (by simp [h9]) g3 hr
  have kp := kept_kp hd.ok
  have hp := put_at (cs := c2 ++ [cellS d, Cell.dead, Cell.dead]) (d := c2.length) (s := "p") (i := 77) (m := d) get_at (by have := hd.len; omega)
  have hcl : c < c2.length := by
    obtain ⟨ys, k, h1, h2⟩ := g2
    exact (List.getElem?_eq_some_iff.mp h2).1
  have g4 : Good c ((c2 ++ [cellS d, Cell.dead, Cell.dead]).set c2.length (cellS (pS d "p" 77))) := by
    obtain ⟨ys, k, h1, h2⟩ := g2
    exact ⟨ys, k, h1, by rw [List.getElem?_set_ne (by omega), List.getElem?_append_left hcl]; exact h2⟩
  have k4 : AllK ((c2 ++ [cellS d, Cell.dead, Cell.dead]).set c2.length (cellS (pS d "p" 77))) := by
    have := (k3.app allK_dead2).set (k := c2.length) (c := cellS (pS d "p" 77)) noKC_cellS
    simpa using this
  generalize (c2 ++ [cellS d, Cell.dead, Cell.dead]).set c2.length (cellS (pS d "p" 77)) = c4 at hp g4 k4
  have t1 := fun x1 x4 x5 x6 x7 x9 x10 x11 x12 x13 => told_ok (n := n) (c := c) (cs := c4) (x1 := x1) (x4 := x4) (x5 := x5) (x6 := x6) (x7 := x7) (x9 := x9) (x10 := x10) (x11 := x11) (x12 := x12) (x13 := x13) (m := keptS d) (d := d) (r := .str r) kp.g
  have t2 := fun x1 x2 x4 x5 x6 x7 x9 x10 x11 x12 x13 => due_ok (n := n) (c := c) (cs := c4) (x1 := x1) (x2 := x2) (x4 := x4) (x5 := x5) (x6 := x6) (x7 := x7) (x9 := x9) (x10 := x10) (x11 := x11) (x12 := x12) (x13 := x13) (d := d)
  have t3 := told_ne hd.ok
  generalize htl : IV.lst (partsL.map fun s => .int (gS d s)) = tl at t1 t2 t3
  obtain ⟨σ', c5, e5, g5, k5, m', d', y4, y5, y10, y11, y12, hkp, hdp, rfl⟩ := for_inv (gm := gmN 5) (b := turnM) (n := n) (fun σ cs' => Good c cs' ∧ AllK cs' ∧ ∃ m' d' y4 y5 y10 y11 y12, KP m' d' ∧ DP d' ∧ σ = [.v (.cell c), .v (.cell c2.length), .v (objS (dS m') (.str r)), .v partsI, y4, y5, .un, .un, .v (dS d'), .v (.str r), y10, y11, y12, .un]) (rgI 0 6) [.v (.cell c), .v (.cell c2.length), .v (objS (dS (keptS d)) (.str r)), .v partsI, .v tl, .un, .un, .un, .v (dS d), .v (.str r), .un, .un, .un, .un] c4 (fun x hx σ cs' hi => by
    obtain ⟨g, k, m', d', y4, y5, y10, y11, y12, h1, h2, rfl⟩ := hi
    obtain ⟨c6, m6, d6, z10, z11, z12, e, g6, k6, kp6, dp6⟩ := turn_ok (n := n) (x1 := .v (.cell c2.length)) (x4 := y4) (x5 := .v x) (x6 := .un) (x7 := .un) (x10 := y10) (x11 := y11) (x12 := y12) (x13 := .un) g k h1 h2 hr
    exact ⟨_, _, _, rfl, e, g6, k6, m6, d6, y4, .v x, z10, z11, z12, kp6, dp6, rfl⟩) ⟨g4, k4, keptS d, d, _, _, _, _, _, kp, hd, rfl⟩
  obtain ⟨c7, e7, t, rfl, kt⟩ := tail_ok (n := n) (c := c) (cs := c5) (x1 := .v (.cell c2.length)) (x4 := y4) (x5 := y5) (x6 := .un) (x7 := .un) (x10 := y10) (x11 := y11) (x12 := y12) (x13 := .un) hkp hdp hr
  refine ⟨c5 ++ t, ?_, k5.app kt⟩
  have hru := fun cs d => rule_ok (n := n) (cs := cs) (d := d) (r := .str r)
  have hpi : IV.lst [.str "abcdefgh", .str "p", .str "q", .str "zz", .str "other"] = partsI := rfl
  unfold f__law_right
  rw [right_eq]
  simp [startI, List.replicate, e1, e2, ixL, er, hD, s1, hp, hpi, t1, t2, t3, isRu, hru, e5, e7]
end
end K09

set_option Elab.async false
set_option linter.all false
set_option autoImplicit false
set_option maxRecDepth 100000
set_option maxHeartbeats 4000000
namespace K09
open PySem PySem.Spec L2 SL
open PyProof.Rows hiding St
noncomputable def o1B : SM := sIf (mB (e2 cNe (eToldL 2 cl__law_heard (setM (eV 0) (M.pure .non))) (eLst (aCons (M.pure (.str "setting")) (aCons (eCall fRepr (aCons (eV 0) (aNil))) (aCons (M.pure (.bl true)) (aNil))))))) (sRet (M.pure (.bl false))) (sNext)
noncomputable def o2B : SM := sIf (mB (e2 cNe (eToldL 2 cl__law_heard (setM (eDis [(M.pure (.str "p"), M.pure (.int 2))]) (eV 0))) (eLst (aCons (M.pure (.str "setting")) (aCons (eCall fRepr (aCons (eV 0) (aNil))) (aCons (M.pure (.bl true)) (aNil))))))) (sRet (M.pure (.bl false))) (sNext)
def set0 : M IV := eFrz (eMk "Setting" f_Setting_init 3 [.non, (.str "turn")] aNil)
noncomputable def o3B : SM := sIf (mB (e2 cNe (eToldL 2 cl__law_heard (eMeth "Setting" "with_slowness" f_Setting_with_slowness 3 [] set0 (aCons (eV 0) (aCons (M.pure .non) (aNil))))) (eLst (aCons (M.pure (.str "unknown")) (aCons (eCall fRepr (aCons (eV 0) (aNil))) (aNil)))))) (sRet (M.pure (.bl false))) (sNext)
noncomputable def o4B : SM := sIf (mB (e2 cNe (eToldL 2 cl__law_heard (eMeth "Setting" "with_slowness" f_Setting_with_slowness 3 [] set0 (aCons (M.pure (.str "p")) (aCons (eV 0) (aNil))))) (eLst (aCons (M.pure (.str "setting")) (aCons (eCall fRepr (aCons (eV 0) (aNil))) (aCons (M.pure (.bl true)) (aNil))))))) (sRet (M.pure (.bl false))) (sNext)
def endM : M IV := eAnd (eqC "Setting" f_Setting_eq false set0 (eFrz (eMk "Setting" f_Setting_init 3 [(.str "turn")] (aCons (M.pure (.dct [] [])) (aNil))))) (eAnd (eqC "Setting" f_Setting_eq false (eFrz (eMk "Setting" f_Setting_init 3 [(.str "turn")] (aCons (M.pure .non) (aNil)))) (eFrz (eMkK "Setting" f_Setting_init 3 0 1 [.non] (aNil) (aCons (M.pure (.str "turn")) (aNil))))) (e2 cEq (eProp "Setting" "rule" f_Setting_rule set0) (M.pure (.str "turn"))))
def l1 : List IV := [.int 5, .str "p", .lst [], .tup [.str "p"], .dct [.inr "A"] [.int 1], .dct [.inr "p"] [.int (-1)], .dct [.inr "p"] [.int 1000001], .dct [.inr "p"] [.bl true], .dct [.inr "p"] [.non], .dct [.inl 5] [.int 1], .dct [.inr ""] [.int 1]]
def l2 : List IV := [.non, .str "Turn", .str "", .int 5, .lst [.str "turn"], .tup [.str "turn"], .bl true]
def l3 : List IV := [.non, .str "A", .str "", .int 5, .lst [.str "p"], .str "abcdefghi"]
def l4 : List IV := [.non, .int (-1), .int 1000001, .bl true, .str "1", .tup [.int 1, .int 1]]
def l1M : M IV := eLst (aCons (M.pure (.int 5)) (aCons (M.pure (.str "p")) (aCons (eLst (aNil)) (aCons (eTup (aCons (M.pure (.str "p")) (aNil))) (aCons (eDis [(M.pure (.str "A"), M.pure (.int 1))]) (aCons (eDis [(M.pure (.str "p"), eNeg (M.pure (.int 1)))]) (aCons (eDis [(M.pure (.str "p"), e2 bAdd (e2 bPow (M.pure (.int 10)) (M.pure (.int 6))) (M.pure (.int 1)))]) (aCons (eDis [(M.pure (.str "p"), M.pure (.bl true))]) (aCons (eDis [(M.pure (.str "p"), M.pure .non)]) (aCons (eDis [(M.pure (.int 5), M.pure (.int 1))]) (aCons (eDis [(M.pure (.str ""), M.pure (.int 1))]) (aNil))))))))))))
def l2M : M IV := eLst (aCons (M.pure .non) (aCons (M.pure (.str "Turn")) (aCons (M.pure (.str "")) (aCons (M.pure (.int 5)) (aCons (eLst (aCons (M.pure (.str "turn")) (aNil))) (aCons (eTup (aCons (M.pure (.str "turn")) (aNil))) (aCons (M.pure (.bl true)) (aNil))))))))
def l3M : M IV := eLst (aCons (M.pure .non) (aCons (M.pure (.str "A")) (aCons (M.pure (.str "")) (aCons (M.pure (.int 5)) (aCons (eLst (aCons (M.pure (.str "p")) (aNil))) (aCons (M.pure (.str "abcdefghi")) (aNil)))))))
def l4M : M IV := eLst (aCons (M.pure .non) (aCons (eNeg (M.pure (.int 1))) (aCons (e2 bAdd (e2 bPow (M.pure (.int 10)) (M.pure (.int 6))) (M.pure (.int 1))) (aCons (M.pure (.bl true)) (aCons (M.pure (.str "1")) (aCons (eTup (aCons (M.pure (.int 1)) (aCons (M.pure (.int 1)) (aNil)))) (aNil)))))))
theorem odd_eq : m__law_odd_right = sSeq (sFor (mIt l1M) (gmN 0) o1B) (sSeq (sFor (mIt l2M) (gmN 0) o2B) (sSeq (sFor (mIt l3M) (gmN 0) o3B) (sSeq (sFor (mIt l4M) (gmN 0) o4B) (sRet endM)))) := rfl
section
variable {n : Nat} {cs : List Cell} {σ : List SV}
theorem hdS {x : IV} {s : Str} (h : reprOf x = some (.str s)) : caughtL cl__law_heard (badS x) n (List.replicate 2 .un) cs = .ret (.lst [.str "setting", .str s, .bl true]) cs := by
  have hf : ∀ cs, fRepr cs [x] = some (.str s) := fun _ => h
  unfold cl__law_heard
  refine caughtL_at rfl fun a cls d => ?_
  unfold hd__law_heard_0
  simp [badS, hf, List.replicate, List.lookup]
theorem hdN {x : IV} {s : Str} (h : reprOf x = some (.str s)) : caughtL cl__law_heard (badN x) n (List.replicate 2 .un) cs = .ret (.lst [.str "unknown", .str s]) cs := by
  have hf : ∀ cs, fRepr cs [x] = some (.str s) := fun _ => h
  unfold cl__law_heard
  rw [caughtL_on rfl]
  refine caughtL_at rfl fun a cls d => ?_
  unfold hd__law_heard_1
  simp [badN, hf, List.replicate, List.lookup]
theorem nicW {w : Str} {t : Str} (hw : nicS w = true) (ht : nicS t = true) : cNe (.lst [.str w, .str t, .bl true]) (.lst [.str w, .str t, .bl true]) = some (.bl false) ∧ cNe (.lst [.str w, .str t]) (.lst [.str w, .str t]) = some (.bl false) := by
  refine ⟨ne_of (nic_lst fun x hx => ?_), ne_of (nic_lst fun x hx => ?_)⟩
  · simp only [List.mem_cons, List.not_mem_nil, or_false] at hx
    rcases hx with rfl | rfl | rfl
    · exact str_k hw
    · exact str_k ht
    · exact ⟨rfl, rfl, by simp [dpI]⟩
  · simp only [List.mem_cons, List.not_mem_nil, or_false] at hx
    rcases hx with rfl | rfl
    · exact str_k hw
    · exact str_k ht
theorem w_set : nicS "setting" = true ∧ nicS "unknown" = true := by decide +kernel
/-- a value whose text is short -/
def Shows (x : IV) : Prop := ∃ t, reprOf x = some (.str t) ∧ nicS t = true
theorem shows_of {x : IV} (h : (match reprOf x with | some (.str t) => nicS t | _ => false) = true) : Shows x := by
  split at h
  · exact ⟨_, by assumption, h⟩
  · cases h
theorem shows_all : ∀ x ∈ l1 ++ l2 ++ l3 ++ l4, Shows x := by
  have h : ((l1 ++ l2 ++ l3 ++ l4).all fun x => (match reprOf x with | some (.str t) => nicS t | _ => false)) = true := by decide +kernel
  exact fun x hx => shows_of (List.all_eq_true.mp h x hx)
theorem l1_bad : ∀ x ∈ l1, (∀ n cs, f_are_slownesses n [x] cs = .ok (.bl false) cs) ∧ cIsNot x .non = some (.bl true) := by
  have hd : ∀ (k : Key) (v : IV), nic (.dct [k] [v]) = true → slowB [(k, v)] = false → ∀ n cs, f_are_slownesses n [.dct [k] [v]] cs = .ok (.bl false) cs := fun k v h h2 n cs => by
    have := slows_ok (n := n) (cs := cs) (ks := [k]) (vs := [v]) rfl (by simp) (by simp) h
    rw [List.zip_cons_cons, List.zip_nil_right, h2] at this
    exact this
  intro x hx
  simp only [l1, List.mem_cons, List.not_mem_nil, or_false] at hx
  rcases hx with rfl | rfl | rfl | rfl | rfl | rfl | rfl | rfl | rfl | rfl | rfl
  · exact ⟨fun _ _ => slows_not rfl rfl, rfl⟩
  · exact ⟨fun _ _ => slows_not (by decide +kernel) rfl, rfl⟩
  · exact ⟨fun _ _ => slows_not rfl rfl, rfl⟩
  · exact ⟨fun _ _ => slows_not rfl rfl, rfl⟩
  all_goals exact ⟨hd _ _ (by decide +kernel) (by decide +kernel), rfl⟩
theorem l2_bad : ∀ x ∈ l2, plainI x = true ∧ (knStr x = false ∨ cNotIn x (.tup [.str "turn", .str "number"]) = some (.bl true)) := by
  intro x hx
  simp only [l2, List.mem_cons, List.not_mem_nil, or_false] at hx
  rcases hx with rfl | rfl | rfl | rfl | rfl | rfl | rfl
  · exact ⟨rfl, .inl rfl⟩
  · exact ⟨by decide +kernel, .inr (by kernel_rfl)⟩
  · exact ⟨by decide +kernel, .inr (by kernel_rfl)⟩
  · exact ⟨rfl, .inl rfl⟩
  · exact ⟨rfl, .inl rfl⟩
  · exact ⟨rfl, .inl rfl⟩
  · exact ⟨rfl, .inl rfl⟩
theorem l3_bad : ∀ x ∈ l3, plainI x = true ∧ nameI x = false := by
  have h : (l3.all fun x => plainI x && !nameI x) = true := by decide +kernel
  exact fun x hx => by simpa using List.all_eq_true.mp h x hx
theorem l4_bad : ∀ x ∈ l4, plainI x = true ∧ wholeI x 0 1000000 = false := by
  have h : (l4.all fun x => plainI x && !wholeI x 0 1000000) = true := by decide +kernel
  exact fun x hx => by simpa using List.all_eq_true.mp h x hx
theorem dis_ok {k v : IV} {m1 m2 : M IV} (h1 : m1 n σ cs = .ok k cs) (h2 : m2 n σ cs = .ok v cs) {key : Key} (hk : keyI k = some key) : eDis [(m1, m2)] n σ cs = .ok (.dct [key] [v]) cs := by
  have hp : mPrs [(m1, m2)] n σ cs = .ok [(k, v)] cs := by
    show (m1.bind fun x => m2.bind fun y => (mPrs []).bind fun r => M.pure ((x, y) :: r)) n σ cs = _
    simp [h1, h2]
    rfl
  have hq : prsI [(k, v)] = some [(key, v)] := by unfold prsI; rw [hk]; rfl
  unfold eDis
  rw [ev_bind, hp, then_ok, ev_opt, hq]
  rfl
theorem l1M_ok : l1M n σ cs = .ok (.lst l1) cs := by
  have d1 := dis_ok (n := n) (σ := σ) (cs := cs) (m1 := M.pure (.str "A")) (m2 := M.pure (.int 1)) (key := .inr "A") rfl rfl rfl
  have d2 := dis_ok (n := n) (σ := σ) (cs := cs) (m1 := M.pure (.str "p")) (m2 := eNeg (M.pure (.int 1))) (key := .inr "p") rfl (v := .int (-1)) (by simp) rfl
  have d3 := dis_ok (n := n) (σ := σ) (cs := cs) (m1 := M.pure (.str "p")) (m2 := e2 bAdd (e2 bPow (M.pure (.int 10)) (M.pure (.int 6))) (M.pure (.int 1))) (key := .inr "p") rfl (v := .int 1000001) (by simp [p6]) rfl
  have d4 := dis_ok (n := n) (σ := σ) (cs := cs) (m1 := M.pure (.str "p")) (m2 := M.pure (.bl true)) (key := .inr "p") rfl rfl rfl
  have d5 := dis_ok (n := n) (σ := σ) (cs := cs) (m1 := M.pure (.str "p")) (m2 := M.pure .non) (key := .inr "p") rfl rfl rfl
  have d6 := dis_ok (n := n) (σ := σ) (cs := cs) (m1 := M.pure (.int 5)) (m2 := M.pure (.int 1)) (key := .inl 5) rfl rfl rfl
  have d7 := dis_ok (n := n) (σ := σ) (cs := cs) (m1 := M.pure (.str "")) (m2 := M.pure (.int 1)) (key := .inr "") rfl rfl rfl
  unfold l1M l1
  simp [d1, d2, d3, d4, d5, d6, d7]
theorem l2M_ok : l2M n σ cs = .ok (.lst l2) cs := by unfold l2M l2; simp
theorem l3M_ok : l3M n σ cs = .ok (.lst l3) cs := by unfold l3M l3; simp
theorem l4M_ok : l4M n σ cs = .ok (.lst l4) cs := by unfold l4M l4; simp [p6]
theorem set0_ok : set0 n σ cs = .ok (objS (dS []) (.str "turn")) (cs ++ [.dead, .dead]) := by
  obtain ⟨C, e1, e2⟩ := set_mk0 (n := n) (cs := cs) (ru := .str "turn") (.inl rfl)
  unfold set0
  simp [e1, e2]
theorem o1_ok {x : IV} (hx : x ∈ l1) : ∃ cs', o1B n [.v x] cs = .next [.v x] cs' ∧ (AllK cs → AllK cs') := by
  obtain ⟨h1, h2⟩ := l1_bad x hx
  obtain ⟨t, h3, h4⟩ := shows_all x (by simp [hx])
  have e := set_ex1 (n := n) (cs := cs) (x := x) (ru := .non) (h1 n) h2
  have e2 : setM (eV 0) (M.pure .non) n [.v x] cs = .ex (badS x) (cs ++ [.ins "Setting" [] []]) := by
    unfold setM; simp [e]
  have e3 := toldL_ex (N := 2) (cl := cl__law_heard) e2 (hdS h3)
  have hf : ∀ cs, fRepr cs [x] = some (.str t) := fun _ => h3
  have hn := (nicW w_set.1 h4).1
  refine ⟨cs ++ [.ins "Setting" [] []], ?_, fun h => h.app (.one rfl)⟩
  unfold o1B
  simp [e3, hf, hn]
theorem p_ok : okS [("p", 2)] := fun p hp => by
  rw [List.mem_singleton.mp hp]
  exact ⟨by decide +kernel, by decide, by decide⟩
theorem o2_ok {x : IV} (hx : x ∈ l2) : ∃ cs', o2B n [.v x] cs = .next [.v x] cs' ∧ (AllK cs → AllK cs') := by
  obtain ⟨h1, h2⟩ := l2_bad x hx
  obtain ⟨t, h3, h4⟩ := shows_all x (by simp [hx])
  have g : GD (dS [("p", 2)]) cs [("p", 2)] := ⟨.inl rfl, by simp [kS], p_ok, by decide⟩
  have e := set_ex2 (n := n) (cs := cs) (ru := x) g h1 h2
  have d := dis_ok (n := n) (σ := [.v x]) (cs := cs) (m1 := M.pure (.str "p")) (m2 := M.pure (.int 2)) (key := .inr "p") rfl rfl rfl
  have hd : IV.dct [.inr "p"] [.int 2] = dS [("p", 2)] := rfl
  rw [hd] at d
  have e2 : setM (eDis [(M.pure (.str "p"), M.pure (.int 2))]) (eV 0) n [.v x] cs = .ex (badS x) (cs ++ [.ins "Setting" [] []]) := by
    unfold setM; simp [d, e]
  have e3 := toldL_ex (N := 2) (cl := cl__law_heard) e2 (hdS h3)
  have hf : ∀ cs, fRepr cs [x] = some (.str t) := fun _ => h3
  have hn := (nicW w_set.1 h4).1
  refine ⟨cs ++ [.ins "Setting" [] []], ?_, fun h => h.app (.one rfl)⟩
  unfold o2B
  simp [e3, hf, hn]
theorem o3_ok {x : IV} (hx : x ∈ l3) : ∃ cs', o3B n [.v x] cs = .next [.v x] cs' ∧ (AllK cs → AllK cs') := by
  obtain ⟨h1, h2⟩ := l3_bad x hx
  obtain ⟨t, h3, h4⟩ := shows_all x (by simp [hx])
  have e := with_bad (n := n) (cs := cs ++ [.dead, .dead]) (d := dS []) (r := .str "turn") (v := .non) h1 h2
  have s0 := set0_ok (n := n) (cs := cs) (σ := [.v x])
  have e2 : eMeth "Setting" "with_slowness" f_Setting_with_slowness 3 [] set0 (aCons (eV 0) (aCons (M.pure .non) (aNil))) n [.v x] cs = .ex (badN x) (cs ++ [.dead, .dead]) := by
    simp [s0, isWi, e]
  have e3 := toldL_ex (N := 2) (cl := cl__law_heard) e2 (hdN h3)
  have hf : ∀ cs, fRepr cs [x] = some (.str t) := fun _ => h3
  have hn := (nicW w_set.2 h4).2
  refine ⟨cs ++ [.dead, .dead], ?_, fun h => h.app allK_dead2⟩
  unfold o3B
  simp [e3, hf, hn]
theorem o4_ok {x : IV} (hx : x ∈ l4) : ∃ cs', o4B n [.v x] cs = .next [.v x] cs' ∧ (AllK cs → AllK cs') := by
  obtain ⟨h1, h2⟩ := l4_bad x hx
  obtain ⟨t, h3, h4⟩ := shows_all x (by simp [hx])
  have e := with_bad2 (n := n) (cs := cs ++ [.dead, .dead]) (d := dS []) (r := .str "turn") (w := .str "p") (v := x) (by decide +kernel) (by decide +kernel) h1 h2
  have s0 := set0_ok (n := n) (cs := cs) (σ := [.v x])
  have e2 : eMeth "Setting" "with_slowness" f_Setting_with_slowness 3 [] set0 (aCons (M.pure (.str "p")) (aCons (eV 0) (aNil))) n [.v x] cs = .ex (badS x) (cs ++ [.dead, .dead]) := by
    simp [s0, isWi, e]
  have e3 := toldL_ex (N := 2) (cl := cl__law_heard) e2 (hdS h3)
  have hf : ∀ cs, fRepr cs [x] = some (.str t) := fun _ => h3
  have hn := (nicW w_set.1 h4).1
  refine ⟨cs ++ [.dead, .dead], ?_, fun h => h.app allK_dead2⟩
  unfold o4B
  simp [e3, hf, hn]
theorem end_ok (hk : AllK cs) : ∃ cs', endM n σ cs = .ok (.bl true) cs' ∧ AllK cs' := by
  have s0 := fun cs => set0_ok (n := n) (cs := cs) (σ := σ)
  have s1 : ∀ cs, eFrz (eMk "Setting" f_Setting_init 3 [(.str "turn")] (aCons (M.pure (.dct [] [])) (aNil))) n σ cs = .ok (objS (dS []) (.str "turn")) (cs ++ [.dead, .dead]) := fun cs => by
    obtain ⟨C, e1, e2⟩ := set_mk (n := n) (cs := cs) (ru := .str "turn") gd_nil (.inl rfl)
    have hd : IV.dct [] [] = dS [] := rfl
    have hk : keptS [] = [] := rfl
    rw [hk] at e2
    simp [hd, e1, e2]
  have s2 : ∀ cs, eFrz (eMk "Setting" f_Setting_init 3 [(.str "turn")] (aCons (M.pure .non) (aNil))) n σ cs = .ok (objS (dS []) (.str "turn")) (cs ++ [.dead, .dead]) := fun cs => by
    obtain ⟨C, e1, e2⟩ := set_mk0 (n := n) (cs := cs) (ru := .str "turn") (.inl rfl)
    simp [e1, e2]
  have s3 : ∀ cs, eFrz (eMkK "Setting" f_Setting_init 3 0 1 [.non] (aNil) (aCons (M.pure (.str "turn")) (aNil))) n σ cs = .ok (objS (dS []) (.str "turn")) (cs ++ [.dead, .dead]) := fun cs => by
    obtain ⟨C, e1, e2⟩ := set_mk0 (n := n) (cs := cs) (ru := .str "turn") (.inl rfl)
    simp [e1, e2]
  have hE := fun cs => eqR_ok (n := n) (cs := cs) (a := []) (b := []) (r1 := "turn") (r2 := "turn")
  have h0 : eqS [] [] = true := rfl
  have hru := fun cs d => rule_ok (n := n) (cs := cs) (d := d) (r := .str "turn")
  generalize h1 : eFrz (eMk "Setting" f_Setting_init 3 [(.str "turn")] (aCons (M.pure (.dct [] [])) (aNil))) = k1 at s1
  generalize h2 : eFrz (eMk "Setting" f_Setting_init 3 [(.str "turn")] (aCons (M.pure .non) (aNil))) = k2 at s2
  generalize h3 : eFrz (eMkK "Setting" f_Setting_init 3 0 1 [.non] (aNil) (aCons (M.pure (.str "turn")) (aNil))) = k3 at s3
  unfold endM
  rw [h1, h2, h3]
  refine ⟨cs ++ [.dead, .dead] ++ [.dead, .dead] ++ [.dead, .dead] ++ [.dead, .dead] ++ [.dead, .dead], ?_, ((((hk.app allK_dead2).app allK_dead2).app allK_dead2).app allK_dead2).app allK_dead2⟩
  simp [s0, s1, s2, s3, hE, h0, isRu, hru]
theorem odd_ok (hk : AllK cs) : ∃ cs', f__law_odd_right n [] cs = .ok (.bl true) cs' ∧ AllK cs' := by
  obtain ⟨σ1, c1, e1, ⟨b1, rfl⟩, k1⟩ := for_inv (gm := gmN 0) (b := o1B) (n := n) (fun σ cs => (∃ b, σ = [b]) ∧ AllK cs) l1 [.un] cs (fun x hx σ cs ⟨⟨b, hb⟩, hc⟩ => by
    subst hb
    obtain ⟨cs', h, hk'⟩ := o1_ok (n := n) (cs := cs) hx
    exact ⟨_, _, _, rfl, h, ⟨_, rfl⟩, hk' hc⟩) ⟨⟨_, rfl⟩, hk⟩
  obtain ⟨σ2, c2, e2, ⟨b2, rfl⟩, k2⟩ := for_inv (gm := gmN 0) (b := o2B) (n := n) (fun σ cs => (∃ b, σ = [b]) ∧ AllK cs) l2 [b1] c1 (fun x hx σ cs ⟨⟨b, hb⟩, hc⟩ => by
    subst hb
    obtain ⟨cs', h, hk'⟩ := o2_ok (n := n) (cs := cs) hx
    exact ⟨_, _, _, rfl, h, ⟨_, rfl⟩, hk' hc⟩) ⟨⟨_, rfl⟩, k1⟩
  obtain ⟨σ3, c3, e3, ⟨b3, rfl⟩, k3⟩ := for_inv (gm := gmN 0) (b := o3B) (n := n) (fun σ cs => (∃ b, σ = [b]) ∧ AllK cs) l3 [b2] c2 (fun x hx σ cs ⟨⟨b, hb⟩, hc⟩ => by
    subst hb
    obtain ⟨cs', h, hk'⟩ := o3_ok (n := n) (cs := cs) hx
    exact ⟨_, _, _, rfl, h, ⟨_, rfl⟩, hk' hc⟩) ⟨⟨_, rfl⟩, k2⟩
  obtain ⟨σ4, c4, e4, ⟨b4, rfl⟩, k4⟩ := for_inv (gm := gmN 0) (b := o4B) (n := n) (fun σ cs => (∃ b, σ = [b]) ∧ AllK cs) l4 [b3] c3 (fun x hx σ cs ⟨⟨b, hb⟩, hc⟩ => by
    subst hb
    obtain ⟨cs', h, hk'⟩ := o4_ok (n := n) (cs := cs) hx
    exact ⟨_, _, _, rfl, h, ⟨_, rfl⟩, hk' hc⟩) ⟨⟨_, rfl⟩, k3⟩
  obtain ⟨c5, e5, k5⟩ := end_ok (n := n) (σ := [b4]) (cs := c4) k4
  have hseq : ∀ l : List IV, seqI (.lst l) = some l := fun _ => rfl
  refine ⟨c5, ?_, k5⟩
  unfold f__law_odd_right
  rw [odd_eq]
  simp [startI, List.replicate, l1M_ok, l2M_ok, l3M_ok, l4M_ok, hseq, e1, e2, e3, e4, e5]
end
noncomputable def cellB : SM := sSeq (sOwn 3 (aCons (eFn f__law_numbers 3 [] (aCons (eV 2) (aCons (e2 bAdd (M.pure (.int 900)) (eV 1)) (aCons (e2 bMul (eLst (aCons (M.pure (.int 420)) (aNil))) (M.pure (.int 80))) (aNil))))) (aCons (M.pure (.int 0)) (aNil)))) (sCell 3 (sIf (mOr (mNot (mT (eFn f__law_right 1 [] (aCons (eV 3) (aNil))))) (mNot (mT (eFn f__law_odd_right 0 [] aNil)))) (sRet (M.pure (.bl false))) (sNext)))
theorem law_eq : m_law = sSeq (sFor (mEn (aCons (e2 bAdd (eSl (eV 0) (oNone) (oSome (M.pure (.int 5)))) (e2 bMul (eLst (aCons (M.pure (.int 7)) (aNil))) (eCall fInt (aCons (e2 cEq (eV 0) (eLst (aNil))) (aNil))))) (aNil))) (gmTup 2 (gmCons (gmN 1) (gmCons (gmN 2) (gmNil)))) cellB) (sRet (M.pure (.bl true))) := rfl
theorem cell_ok {n k : Nat} {z : Int} {cs : List Cell} {x0 x3 : SV} (hk : k < 1000) (ha : AllK cs) : ∃ cs' b3, cellB n [x0, .v (.int k), .v (.int z), x3] cs = .next [x0, .v (.int k), .v (.int z), b3] cs' ∧ AllK cs' := by
  have hm : bMul (.lst [.int 420]) (.int 80) = some (.lst (intL (List.replicate 80 420))) := by
    rw [← rep_int]
    exact if_pos (e := none) (c := -(2 ^ 63) ≤ (80 : Int) ∧ (80 : Int) < 2 ^ 63 ∧ [IV.int 420].length * (80 : Int).toNat ≤ 1000000) (by decide)
  obtain ⟨ys, e1, hg⟩ := num_good (n := n) (cs := cs) (cell := z) (salt := 900 + k) (zs := List.replicate 80 420) (by rw [List.length_replicate]; decide) (by omega) (by omega) (fun z hz => by rw [(List.mem_replicate.mp hz).2]; decide)
  have e1 : f__law_numbers n [.int z, .int (900 + (k : Int)), .lst (intL (List.replicate 80 420))] cs = _ := e1
  obtain ⟨c1, e2, g2⟩ := right_ok (n := n) (hg cs) (ha.app (.one (by simp only [noKC, noKL, noK, noK_ints, Bool.and_self])))
  obtain ⟨c2, e3, k2⟩ := odd_ok (n := n) (cs := c1) g2
  refine ⟨c2, .v (.cell cs.length), ?_, k2⟩
  generalize List.replicate 80 (420 : Int) = zs at hm e1
  unfold cellB
  simp [hm, e1, e2, e3]
theorem plain (ns : List Int) (h1 : ns.length ≤ 63) (h2 : ∀ z ∈ ns, Builtin.Int.intBits z ≤ 1048576) : ∃ fuel cs, f_law fuel [.rol (ns.map IV.int)] [] = .ok (.bl true) cs := by
  obtain ⟨zs, e1, hz⟩ := cells_ok (n := 0) (cs := []) (ns := ns) (j := 5) (z := 7) (σ := startI 4 [.rol (ns.map IV.int)]) (by decide) rfl
  obtain ⟨σ', cs', e2', ⟨a1, a2, a3, rfl⟩, _⟩ := for_inv (gm := gmTup 2 (gmCons (gmN 1) (gmCons (gmN 2) (gmNil)))) (b := cellB) (n := 0) (fun σ cs => (∃ a1 a2 a3, σ = [.v (.rol (ns.map IV.int)), a1, a2, a3]) ∧ AllK cs) (enI (zs.map IV.int) 0) (startI 4 [.rol (ns.map IV.int)]) [] (fun x hx σ cs hi => by
    obtain ⟨⟨a1, a2, a3, rfl⟩, ha⟩ := hi
    obtain ⟨k, y, hk, _, hy, rfl⟩ := enI_mem hx
    obtain ⟨z, _, rfl⟩ := List.mem_map.mp hy
    obtain ⟨cs', b3, h, h3⟩ := cell_ok (n := 0) (k := k) (z := z) (cs := cs) (x0 := .v (.rol (ns.map IV.int))) (x3 := a3) (by simp at hk; omega) ha
    exact ⟨_, _, _, rfl, h, ⟨_, _, _, rfl⟩, h3⟩) ⟨⟨_, _, _, rfl⟩, fun c h => by cases h⟩
  refine ⟨0, cs', ?_⟩
  unfold f_law
  rw [law_eq]
  have hl : lstI (.lst (zs.map IV.int)) = some (zs.map IV.int) := rfl
  simp only [ev_fnM, ev_sSeq, ev_sFor, ev_mEn, ev_aCons, ev_aNil, then_ok, optR_some, enA_one]
  erw [e1]
  simp [hl, e2']
end K09

namespace K09
open PySem PySem.Spec L2 SL
open PyProof.Rows hiding St
set_option linter.all false
set_option autoImplicit false
set_option maxRecDepth 100000
set_option maxHeartbeats 4000000
theorem all_mk {P : Program} {w : World} {K : PySem.W.Frag} {h : Heap} {mg : Str → Option Value} {fa : Addr} (X : K.In h) (G : h.Ns mainGlobals mg) (hfa : mg "law" = some (.ref fa))
    {C_Setting : Addr} (aC_Setting : PySem.W.nsIn K mainGlobals "Setting" = some (some (.ref C_Setting)))
    (kpg_Setting : PySem.W.plainGet K C_Setting Str.empty = true)
    (khd_Setting : PySem.W.hasDictIn K C_Setting = true)
    (kpo_Setting : PySem.W.plainOver K C_Setting = true)
    (ksa_Setting : PySem.W.findIn K (.ref C_Setting) "__setattr__" = some (some (.builtin "object.__setattr__")))
    (kna_Setting_own_slownesses : PySem.W.findIn K (.ref C_Setting) "own_slownesses" = some none)
    (kna_Setting_own_rule : PySem.W.findIn K (.ref C_Setting) "own_rule" = some none)
    {f0 : Addr} {oc0 kV0 dc0 pm0 cd0 ct0 : Value} {od0 an0 : Option Addr} {sl0 : Array (Option Value)}
    (a0 : PySem.W.nsIn K mainGlobals "_law_numbers" = some (some (.ref f0)))
    (l0 : K.lookup f0 = some ⟨oc0, od0, .func (PySem.W.fnOf "_law_numbers" "_law_numbers" (defArgs st__law_numbers) (defBody st__law_numbers) (defScope st__law_numbers) .none kV0 dc0 pm0 an0 cd0 ct0), sl0⟩)
    (c0 : PySem.W.codeIn K cd0 "_law_numbers" = true)
    (k0 : PySem.W.keepIn K (.ref f0) = true)
    {f1 : Addr} {oc1 kV1 dc1 pm1 cd1 ct1 : Value} {od1 an1 : Option Addr} {sl1 : Array (Option Value)}
    (a1 : PySem.W.nsIn K mainGlobals "_law_draw" = some (some (.ref f1)))
    (l1 : K.lookup f1 = some ⟨oc1, od1, .func (PySem.W.fnOf "_law_draw" "_law_draw" (defArgs st__law_draw) (defBody st__law_draw) (defScope st__law_draw) .none kV1 dc1 pm1 an1 cd1 ct1), sl1⟩)
    (c1 : PySem.W.codeIn K cd1 "_law_draw" = true)
    (k1 : PySem.W.keepIn K (.ref f1) = true)
    {f2 : Addr} {oc2 kV2 dc2 pm2 cd2 ct2 : Value} {od2 an2 : Option Addr} {sl2 : Array (Option Value)}
    (a2 : PySem.W.nsIn K mainGlobals "_law_slow" = some (some (.ref f2)))
    (l2 : K.lookup f2 = some ⟨oc2, od2, .func (PySem.W.fnOf "_law_slow" "_law_slow" (defArgs st__law_slow) (defBody st__law_slow) (defScope st__law_slow) .none kV2 dc2 pm2 an2 cd2 ct2), sl2⟩)
    (c2 : PySem.W.codeIn K cd2 "_law_slow" = true)
    (k2 : PySem.W.keepIn K (.ref f2) = true)
    {f3 : Addr} {oc3 kV3 dc3 pm3 cd3 ct3 : Value} {od3 an3 : Option Addr} {sl3 : Array (Option Value)}
    (a3 : PySem.W.nsIn K mainGlobals "is_name" = some (some (.ref f3)))
    (l3 : K.lookup f3 = some ⟨oc3, od3, .func (PySem.W.fnOf "is_name" "is_name" (defArgs st_is_name) (defBody st_is_name) (defScope st_is_name) .none kV3 dc3 pm3 an3 cd3 ct3), sl3⟩)
    (c3 : PySem.W.codeIn K cd3 "is_name" = true)
    (k3 : PySem.W.keepIn K (.ref f3) = true)
    {f4 : Addr} {oc4 kV4 dc4 pm4 cd4 ct4 : Value} {od4 an4 : Option Addr} {sl4 : Array (Option Value)}
    (a4 : PySem.W.nsIn K mainGlobals "is_integer" = some (some (.ref f4)))
    (l4 : K.lookup f4 = some ⟨oc4, od4, .func (PySem.W.fnOf "is_integer" "is_integer" (defArgs st_is_integer) (defBody st_is_integer) (defScope st_is_integer) .none kV4 dc4 pm4 an4 cd4 ct4), sl4⟩)
    (c4 : PySem.W.codeIn K cd4 "is_integer" = true)
    (k4 : PySem.W.keepIn K (.ref f4) = true)
    {f5 : Addr} {oc5 kV5 dc5 pm5 cd5 ct5 : Value} {od5 an5 : Option Addr} {sl5 : Array (Option Value)}
    (a5 : PySem.W.nsIn K mainGlobals "is_between" = some (some (.ref f5)))
    (l5 : K.lookup f5 = some ⟨oc5, od5, .func (PySem.W.fnOf "is_between" "is_between" (defArgs st_is_between) (defBody st_is_between) (defScope st_is_between) .none kV5 dc5 pm5 an5 cd5 ct5), sl5⟩)
    (c5 : PySem.W.codeIn K cd5 "is_between" = true)
    (k5 : PySem.W.keepIn K (.ref f5) = true)
    {f6 : Addr} {oc6 kV6 dc6 pm6 cd6 ct6 : Value} {od6 an6 : Option Addr} {sl6 : Array (Option Value)}
    (a6 : PySem.W.nsIn K mainGlobals "are_slownesses" = some (some (.ref f6)))
    (l6 : K.lookup f6 = some ⟨oc6, od6, .func (PySem.W.fnOf "are_slownesses" "are_slownesses" (defArgs st_are_slownesses) (defBody st_are_slownesses) (defScope st_are_slownesses) .none kV6 dc6 pm6 an6 cd6 ct6), sl6⟩)
    (c6 : PySem.W.codeIn K cd6 "are_slownesses" = true)
    (k6 : PySem.W.keepIn K (.ref f6) = true)
    {f7 : Addr} {oc7 dc7 pm7 cd7 ct7 : Value} {od7 an7 : Option Addr} {sl7 : Array (Option Value)}
    (kmk7 : PySem.W.makesIn K C_Setting = true) (kin7 : PySem.W.findIn K (.ref C_Setting) "__init__" = some (some (.ref f7))) (kkp7 : PySem.W.keepIn K (.ref C_Setting) = true)
    {T7 : Addr} {dT7 : Option Addr} {nT7 : Nat} {sT7 : Array (Option Value)}
    {Dk7 : Addr} {tk7_0 : Tok}
    (l7 : K.lookup f7 = some ⟨oc7, od7, .func (PySem.W.fnOf "__init__" "Setting.__init__" (defArgs st_Setting_init) (defBody st_Setting_init) (defScope st_Setting_init) (.ref T7) (.ref Dk7) dc7 pm7 an7 cd7 ct7), sl7⟩)
    (qk7_0 : PySem.W.nsIn K Dk7 "rule" = some (some (.str "turn" tk7_0)))
    (lT7 : K.lookup T7 = some ⟨.type "tuple", dT7, .seq #[.none] nT7, sT7⟩)
    (c7 : PySem.W.codeIn K cd7 "Setting.__init__" = true) (k7 : PySem.W.keepIn K (.ref f7) = true) (kfn7 : PySem.W.isFn K (.ref f7) = true)
    {f8 : Addr} {oc8 kV8 dc8 pm8 cd8 ct8 : Value} {od8 an8 : Option Addr} {sl8 : Array (Option Value)}
    (kmm8 : PySem.W.findIn K (.ref C_Setting) "slowness" = some (some (.ref f8)))
    (l8 : K.lookup f8 = some ⟨oc8, od8, .func (PySem.W.fnOf "slowness" "Setting.slowness" (defArgs st_Setting_slowness) (defBody st_Setting_slowness) (defScope st_Setting_slowness) .none kV8 dc8 pm8 an8 cd8 ct8), sl8⟩)
    (c8 : PySem.W.codeIn K cd8 "Setting.slowness" = true) (k8 : PySem.W.keepIn K (.ref f8) = true) (kfn8 : PySem.W.isFn K (.ref f8) = true)
    {f9 : Addr} {oc9 kV9 dc9 pm9 cd9 ct9 : Value} {od9 an9 : Option Addr} {sl9 : Array (Option Value)}
    {pp9 : Addr} {pr9 : List Value} (kpp9 : PySem.W.findIn K (.ref C_Setting) "rule" = some (some (.ref pp9))) (kpt9 : PySem.W.specialIn K (.ref pp9) "__get__" = some (some (.builtin "property.__get__"))) (kpk9 : PySem.W.takesIn K (.ref pp9) = some true) (kpr9 : PySem.W.recIn K pp9 "property" = some (.ref f9 :: pr9))
    (l9 : K.lookup f9 = some ⟨oc9, od9, .func (PySem.W.fnOf "rule" "Setting.rule" (defArgs st_Setting_rule) (defBody st_Setting_rule) (defScope st_Setting_rule) .none kV9 dc9 pm9 an9 cd9 ct9), sl9⟩)
    (c9 : PySem.W.codeIn K cd9 "Setting.rule" = true) (k9 : PySem.W.keepIn K (.ref f9) = true) (kfn9 : PySem.W.isFn K (.ref f9) = true)
    {f10 : Addr} {oc10 kV10 dc10 pm10 cd10 ct10 : Value} {od10 an10 : Option Addr} {sl10 : Array (Option Value)}
    (kmm10 : PySem.W.findIn K (.ref C_Setting) "with_slowness" = some (some (.ref f10)))
    (l10 : K.lookup f10 = some ⟨oc10, od10, .func (PySem.W.fnOf "with_slowness" "Setting.with_slowness" (defArgs st_Setting_with_slowness) (defBody st_Setting_with_slowness) (defScope st_Setting_with_slowness) .none kV10 dc10 pm10 an10 cd10 ct10), sl10⟩)
    (c10 : PySem.W.codeIn K cd10 "Setting.with_slowness" = true) (k10 : PySem.W.keepIn K (.ref f10) = true) (kfn10 : PySem.W.isFn K (.ref f10) = true)
    {f11 : Addr} {oc11 kV11 dc11 pm11 cd11 ct11 : Value} {od11 an11 : Option Addr} {sl11 : Array (Option Value)}
    (kmm11 : PySem.W.findIn K (.ref C_Setting) "__eq__" = some (some (.ref f11)))
    (l11 : K.lookup f11 = some ⟨oc11, od11, .func (PySem.W.fnOf "__eq__" "Setting.__eq__" (defArgs st_Setting_eq) (defBody st_Setting_eq) (defScope st_Setting_eq) .none kV11 dc11 pm11 an11 cd11 ct11), sl11⟩)
    (c11 : PySem.W.codeIn K cd11 "Setting.__eq__" = true) (k11 : PySem.W.keepIn K (.ref f11) = true) (kfn11 : PySem.W.isFn K (.ref f11) = true)
    {f12 : Addr} {oc12 kV12 dc12 pm12 cd12 ct12 : Value} {od12 an12 : Option Addr} {sl12 : Array (Option Value)}
    (a12 : PySem.W.nsIn K mainGlobals "_law_right" = some (some (.ref f12)))
    (l12 : K.lookup f12 = some ⟨oc12, od12, .func (PySem.W.fnOf "_law_right" "_law_right" (defArgs st__law_right) (defBody st__law_right) (defScope st__law_right) .none kV12 dc12 pm12 an12 cd12 ct12), sl12⟩)
    (c12 : PySem.W.codeIn K cd12 "_law_right" = true)
    (k12 : PySem.W.keepIn K (.ref f12) = true)
    {f13 : Addr} {oc13 kV13 dc13 pm13 ct13 : Value} {od13 an13 : Option Addr} {sl13 : Array (Option Value)}
    {cA13 Pt13 : Addr}
    (a13 : PySem.W.nsIn K mainGlobals "_law_odd_right" = some (some (.ref f13)))
    (l13 : K.lookup f13 = some ⟨oc13, od13, .func (PySem.W.fnOf "_law_odd_right" "_law_odd_right" (defArgs st__law_odd_right) (defBody st__law_odd_right) (defScope st__law_odd_right) .none kV13 dc13 pm13 an13 (.ref cA13) ct13), sl13⟩)
    (c13 : PySem.W.codeIn K (.ref cA13) "_law_odd_right" = true)
    (k13 : PySem.W.keepIn K (.ref f13) = true)
    {co13 : Option Addr} {cv13 : Array Value} {cs13 : Array (Option Value)} (v13 : K.lookup cA13 = some ⟨.type "code", co13, .fields cv13, cs13⟩) (p13 : cv13[11]? = some (.ref Pt13)) (nP13 : K.lookup Pt13 = none) (ch13 : PySem.W.codeHdIn [(cA13, ⟨.type "code", co13, .fields cv13, cs13⟩)] cA13 Pt13 = true)
    {f14 : Addr} {oc14 kV14 dc14 pm14 cd14 ct14 : Value} {od14 an14 : Option Addr} {sl14 : Array (Option Value)}
    (a14 : PySem.W.nsIn K mainGlobals "law" = some (some (.ref f14)))
    (l14 : K.lookup f14 = some ⟨oc14, od14, .func (PySem.W.fnOf "law" "law" (defArgs st_law) (defBody st_law) (defScope st_law) .none kV14 dc14 pm14 an14 cd14 ct14), sl14⟩)
    (c14 : PySem.W.codeIn K cd14 "law" = true)
    (k14 : PySem.W.keepIn K (.ref f14) = true)
    {f__law_heard : Addr} {oc__law_heard kV__law_heard dc__law_heard pm__law_heard cd__law_heard ct__law_heard : Value} {od__law_heard an__law_heard : Option Addr} {sl__law_heard : Array (Option Value)}
    (a__law_heard : PySem.W.nsIn K mainGlobals "_law_heard" = some (some (.ref f__law_heard)))
    (l__law_heard : K.lookup f__law_heard = some ⟨oc__law_heard, od__law_heard, .func (PySem.W.fnOf "_law_heard" "_law_heard" (defArgs st__law_heard) (defBody st__law_heard) (defScope st__law_heard) .none kV__law_heard dc__law_heard pm__law_heard an__law_heard cd__law_heard ct__law_heard), sl__law_heard⟩)
    (c__law_heard : PySem.W.codeIn K cd__law_heard "_law_heard" = true)
    (k__law_heard : PySem.W.keepIn K (.ref f__law_heard) = true)
    {C_InvalidSetting fI_InvalidSetting : Addr} {nm_InvalidSetting q_InvalidSetting : Str} {N_InvalidSetting : Addr} {bs_InvalidSetting bm_InvalidSetting : List Value} {sn_InvalidSetting : List Str} {sub_InvalidSetting : List Value} {ab_InvalidSetting : Bool} {col_InvalidSetting : Option Bool} {dd_InvalidSetting : Option Addr} {m0_InvalidSetting m1_InvalidSetting m2_InvalidSetting m3_InvalidSetting m5_InvalidSetting : Option Value}
    {xoc_InvalidSetting xdc_InvalidSetting xpm_InvalidSetting xcd_InvalidSetting xct_InvalidSetting : Value} {xod_InvalidSetting xan_InvalidSetting : Option Addr} {xsl_InvalidSetting : Array (Option Value)}
    (aC_InvalidSetting : PySem.W.nsIn K mainGlobals "InvalidSetting" = some (some (.ref C_InvalidSetting)))
    (xL_InvalidSetting : K.lookup C_InvalidSetting = some (excClassObj nm_InvalidSetting q_InvalidSetting C_InvalidSetting N_InvalidSetting bs_InvalidSetting bm_InvalidSetting true sn_InvalidSetting sub_InvalidSetting ab_InvalidSetting col_InvalidSetting dd_InvalidSetting m0_InvalidSetting m1_InvalidSetting m2_InvalidSetting m3_InvalidSetting m5_InvalidSetting "Exception.__new__"))
    (bm_InvalidSetting : PySem.OwnEx.refsT [.type "Exception", .type "BaseException", .type "object"] bm_InvalidSetting = true)
    (sa_InvalidSetting : PySem.W.findIn K (.ref C_InvalidSetting) "__setattr__" = some (some (.builtin "object.__setattr__")))
    (ga_InvalidSetting : PySem.W.findIn K (.ref C_InvalidSetting) "__getattribute__" = some (some (.builtin "BaseException.__getattribute__")))
    (gg_InvalidSetting : PySem.W.findIn K (.ref C_InvalidSetting) "__getattr__" = some none)
    (nb_InvalidSetting : PySem.W.findIn K (.ref C_InvalidSetting) "value" = some none)
    (ai_InvalidSetting : PySem.W.findIn K (.ref C_InvalidSetting) "__init__" = some (some (.ref fI_InvalidSetting)))
    (ti_InvalidSetting : PySem.W.typeIn K (.ref fI_InvalidSetting) = some (.type "function"))
    (li_InvalidSetting : K.lookup fI_InvalidSetting = some ⟨xoc_InvalidSetting, xod_InvalidSetting, .func (PySem.W.fnOf "__init__" "InvalidSetting.__init__" (defArgs st_InvalidSetting_init) (defBody st_InvalidSetting_init) (defScope st_InvalidSetting_init) .none .none xdc_InvalidSetting xpm_InvalidSetting xan_InvalidSetting xcd_InvalidSetting xct_InvalidSetting), xsl_InvalidSetting⟩)
    (ci_InvalidSetting : PySem.W.codeIn K xcd_InvalidSetting "InvalidSetting.__init__" = true)
    (kC_InvalidSetting : PySem.W.keepIn K (.ref C_InvalidSetting) = true)
    (eC_InvalidSetting : PySem.W.subIn K (.ref C_InvalidSetting) (.type "BaseException") = some true)
    (tC_InvalidSetting : PySem.W.typeIn K (.ref C_InvalidSetting) = some (.type "type"))
    (hC_InvalidSetting : PySem.W.hasDictIn K C_InvalidSetting = true)
    {C_UnknownName fI_UnknownName : Addr} {nm_UnknownName q_UnknownName : Str} {N_UnknownName : Addr} {bs_UnknownName bm_UnknownName : List Value} {sn_UnknownName : List Str} {sub_UnknownName : List Value} {ab_UnknownName : Bool} {col_UnknownName : Option Bool} {dd_UnknownName : Option Addr} {m0_UnknownName m1_UnknownName m2_UnknownName m3_UnknownName m5_UnknownName : Option Value}
    {xoc_UnknownName xdc_UnknownName xpm_UnknownName xcd_UnknownName xct_UnknownName : Value} {xod_UnknownName xan_UnknownName : Option Addr} {xsl_UnknownName : Array (Option Value)}
    (aC_UnknownName : PySem.W.nsIn K mainGlobals "UnknownName" = some (some (.ref C_UnknownName)))
    (xL_UnknownName : K.lookup C_UnknownName = some (excClassObj nm_UnknownName q_UnknownName C_UnknownName N_UnknownName bs_UnknownName bm_UnknownName true sn_UnknownName sub_UnknownName ab_UnknownName col_UnknownName dd_UnknownName m0_UnknownName m1_UnknownName m2_UnknownName m3_UnknownName m5_UnknownName "LookupError.__new__"))
    (bm_UnknownName : PySem.OwnEx.refsT [.type "KeyError", .type "LookupError", .type "Exception", .type "BaseException", .type "object"] bm_UnknownName = true)
    (sa_UnknownName : PySem.W.findIn K (.ref C_UnknownName) "__setattr__" = some (some (.builtin "object.__setattr__")))
    (ga_UnknownName : PySem.W.findIn K (.ref C_UnknownName) "__getattribute__" = some (some (.builtin "BaseException.__getattribute__")))
    (gg_UnknownName : PySem.W.findIn K (.ref C_UnknownName) "__getattr__" = some none)
    (nb_UnknownName : PySem.W.findIn K (.ref C_UnknownName) "name" = some none)
    (ai_UnknownName : PySem.W.findIn K (.ref C_UnknownName) "__init__" = some (some (.ref fI_UnknownName)))
    (ti_UnknownName : PySem.W.typeIn K (.ref fI_UnknownName) = some (.type "function"))
    (li_UnknownName : K.lookup fI_UnknownName = some ⟨xoc_UnknownName, xod_UnknownName, .func (PySem.W.fnOf "__init__" "UnknownName.__init__" (defArgs st_UnknownName_init) (defBody st_UnknownName_init) (defScope st_UnknownName_init) .none .none xdc_UnknownName xpm_UnknownName xan_UnknownName xcd_UnknownName xct_UnknownName), xsl_UnknownName⟩)
    (ci_UnknownName : PySem.W.codeIn K xcd_UnknownName "UnknownName.__init__" = true)
    (kC_UnknownName : PySem.W.keepIn K (.ref C_UnknownName) = true)
    (eC_UnknownName : PySem.W.subIn K (.ref C_UnknownName) (.type "BaseException") = some true)
    (tC_UnknownName : PySem.W.typeIn K (.ref C_UnknownName) = some (.type "type"))
    (hC_UnknownName : PySem.W.hasDictIn K C_UnknownName = true)
    {C_TimesError : Addr} (aC_TimesError : PySem.W.nsIn K mainGlobals "TimesError" = some (some (.ref C_TimesError)))
    (su_InvalidSetting_InvalidSetting : PySem.W.subIn K (.ref C_InvalidSetting) (.ref C_InvalidSetting) = some true)
    (su_InvalidSetting_UnknownName : PySem.W.subIn K (.ref C_InvalidSetting) (.ref C_UnknownName) = some false)
    (su_UnknownName_InvalidSetting : PySem.W.subIn K (.ref C_UnknownName) (.ref C_InvalidSetting) = some false)
    (su_UnknownName_UnknownName : PySem.W.subIn K (.ref C_UnknownName) (.ref C_UnknownName) = some true)
    (hcA_InvalidSetting : PySem.W.findIn K (.ref C_InvalidSetting) "__class__" = some (some (.builtin "object.__class__"))) (hcM_InvalidSetting : PySem.W.mroIn K C_InvalidSetting (.type "object") = some true)
    (hcA_Setting : PySem.W.findIn K (.ref C_Setting) "__class__" = some (some (.builtin "object.__class__"))) (hcM_Setting : PySem.W.mroIn K C_Setting (.type "object") = some true) (hcC_Setting : ((PySem.W.clsIn K C_Setting).isSome && PySem.W.typeIn K (.ref C_Setting) == some (.type "type")) = true)
    (neN_Setting : PySem.W.findIn K (.ref C_Setting) "__ne__" = some (some (.builtin "object.__ne__"))) (neO_Setting : PySem.W.subIn K (.ref C_Setting) (.type "object") = some true)
    (hcN : PySem.W.specialIn K (.builtin "object.__class__") "__get__" = some (some (.builtin "getset_descriptor.__get__"))) (hcT : PySem.W.takesIn K (.builtin "object.__class__") = some true)
    (ki_InvalidSetting_TimesError : PySem.W.kitOne K (.ref C_InvalidSetting) (.ref C_TimesError) = some true)
    (z_enumerate : PySem.W.nsIn K mainGlobals "enumerate" = some none)
    (z_int : PySem.W.nsIn K mainGlobals "int" = some none)
    (z_max : PySem.W.nsIn K mainGlobals "max" = some none)
    (z_range : PySem.W.nsIn K mainGlobals "range" = some none)
    (z_len : PySem.W.nsIn K mainGlobals "len" = some none)
    (z_dict : PySem.W.nsIn K mainGlobals "dict" = some none)
    (z_isinstance : PySem.W.nsIn K mainGlobals "isinstance" = some none)
    (z_all : PySem.W.nsIn K mainGlobals "all" = some none)
    (z_str : PySem.W.nsIn K mainGlobals "str" = some none)
    (z_bool : PySem.W.nsIn K mainGlobals "bool" = some none)
    (z_sorted : PySem.W.nsIn K mainGlobals "sorted" = some none)
    (z_list : PySem.W.nsIn K mainGlobals "list" = some none)
    (z_repr : PySem.W.nsIn K mainGlobals "repr" = some none)
    {t_MAX_LETTERS : Tok} (v_MAX_LETTERS : PySem.W.nsIn K mainGlobals "MAX_LETTERS" = some (some (.int 8 t_MAX_LETTERS)))
    {t_LOWERCASE : Tok} (v_LOWERCASE : PySem.W.nsIn K mainGlobals "LOWERCASE" = some (some (.str "abcdefghijklmnopqrstuvwxyz" t_LOWERCASE)))
    {t_MAX_SLOWNESS : Tok} (v_MAX_SLOWNESS : PySem.W.nsIn K mainGlobals "MAX_SLOWNESS" = some (some (.int 1000000 t_MAX_SLOWNESS)))
    {r_RULES : Addr} {dd_RULES : Option Addr} {its_RULES : List Value} {nn_RULES : Nat} {sl_RULES : Array (Option Value)} (v_RULES : PySem.W.nsIn K mainGlobals "RULES" = some (some (.ref r_RULES))) (w_RULES : K.lookup r_RULES = some ⟨.type "tuple", dd_RULES, .seq its_RULES.toArray nn_RULES, sl_RULES⟩) (e_RULES : seqEq its_RULES [(.str "turn"), (.str "number")])
    {t_USUAL_SLOWNESS : Tok} (v_USUAL_SLOWNESS : PySem.W.nsIn K mainGlobals "USUAL_SLOWNESS" = some (some (.int 1 t_USUAL_SLOWNESS)))
    : (∀ x ∈ lamNames, ∃ c P, PySem.W.tabIn K x = some (c, P) ∧ K.lookup P = none) ∧ ∃ (fd : FuncData) (fm : FM), (∀ (s : Shared) (u : Value), BindsTo s fd ⟨[u], []⟩ [("_law_script", u)]) ∧ (∀ ns : List Int, ns.length ≤ 63 → (∀ z ∈ ns, Builtin.Int.intBits z ≤ 1048576) → ∃ fuel cs, fm fuel [.rol (ns.map IV.int)] [] = .ok (.bl true) cs) ∧ ∀ (fuel : Nat) (base : Heap), K.In base → base.Ns mainGlobals mg → TabsB K mg base → FnG P w K mg base fuel 10 fa fd ["_law_script"] fm := by
  have e := hfa.symm.trans (PySem.W.mg_of X G a14)
  cases e
  have M : Mods K w mg := { z_enumerate := PySem.W.mg_none_of X G z_enumerate, z_int := PySem.W.mg_none_of X G z_int, z_max := PySem.W.mg_none_of X G z_max, z_range := PySem.W.mg_none_of X G z_range, z_len := PySem.W.mg_none_of X G z_len, z_dict := PySem.W.mg_none_of X G z_dict, z_isinstance := PySem.W.mg_none_of X G z_isinstance, z_all := PySem.W.mg_none_of X G z_all, z_str := PySem.W.mg_none_of X G z_str, z_bool := PySem.W.mg_none_of X G z_bool, z_sorted := PySem.W.mg_none_of X G z_sorted, z_list := PySem.W.mg_none_of X G z_list, z_repr := PySem.W.mg_none_of X G z_repr, g_TimesError := ⟨_, PySem.W.mg_of X G aC_TimesError⟩, isC_InvalidSetting := fun C h => by rw [PySem.W.mg_of X G aC_InvalidSetting] at h; cases h; exact ⟨ga_InvalidSetting, gg_InvalidSetting, eC_InvalidSetting, hC_InvalidSetting, hcA_InvalidSetting, hcN, hcT, hcM_InvalidSetting⟩, k_InvalidSetting_TimesError := fun C h D h2 => by rw [PySem.W.mg_of X G aC_InvalidSetting] at h; cases h; rw [PySem.W.mg_of X G aC_TimesError] at h2; cases h2; exact ki_InvalidSetting_TimesError, x_InvalidSetting := ⟨C_InvalidSetting, fI_InvalidSetting, { gC := PySem.W.mg_of X G aC_InvalidSetting, cls := ⟨_, _, _, _, _, _, _, _, _, _, _, _, _, _, _, xL_InvalidSetting, bm_InvalidSetting⟩, sa := sa_InvalidSetting, ga := ga_InvalidSetting, gg := gg_InvalidSetting, noN := nb_InvalidSetting, iC := ai_InvalidSetting, tC := ti_InvalidSetting, kC := kC_InvalidSetting, exC := eC_InvalidSetting, tyC := tC_InvalidSetting, hdC := hC_InvalidSetting, fn := ⟨_, _, _, _, _, _, _, _, _, _, _, _, _, _, li_InvalidSetting, ci_InvalidSetting, fun _ _ => rfl⟩, fs := ⟨by decide, by decide⟩ }⟩, x_UnknownName := ⟨C_UnknownName, fI_UnknownName, { gC := PySem.W.mg_of X G aC_UnknownName, cls := ⟨_, _, _, _, _, _, _, _, _, _, _, _, _, _, _, xL_UnknownName, bm_UnknownName⟩, sa := sa_UnknownName, ga := ga_UnknownName, gg := gg_UnknownName, noN := nb_UnknownName, iC := ai_UnknownName, tC := ti_UnknownName, kC := kC_UnknownName, exC := eC_UnknownName, tyC := tC_UnknownName, hdC := hC_UnknownName, fn := ⟨_, _, _, _, _, _, _, _, _, _, _, _, _, _, li_UnknownName, ci_UnknownName, fun _ _ => rfl⟩, fs := ⟨by decide, by decide⟩ }⟩, Q_Setting := ⟨C_Setting, ⟨PySem.W.mg_of X G aC_Setting, ⟨kpg_Setting, khd_Setting, kpo_Setting, ksa_Setting⟩⟩, hcA_Setting, hcN, hcT, hcM_Setting, hcC_Setting⟩, N_Setting := fun C h => by rw [PySem.W.mg_of X G aC_Setting] at h; cases h; exact ⟨neN_Setting, neO_Setting⟩, K_Setting := ⟨C_Setting, PySem.W.mg_of X G aC_Setting, ⟨kpg_Setting, khd_Setting, kpo_Setting, ksa_Setting⟩⟩, n_Setting_own_slownesses := fun C h => by rw [PySem.W.mg_of X G aC_Setting] at h; cases h; exact kna_Setting_own_slownesses, n_Setting_own_rule := fun C h => by rw [PySem.W.mg_of X G aC_Setting] at h; cases h; exact kna_Setting_own_rule, c_MAX_LETTERS := ⟨_, PySem.W.mg_of X G v_MAX_LETTERS⟩, c_LOWERCASE := ⟨_, PySem.W.mg_of X G v_LOWERCASE⟩, c_MAX_SLOWNESS := ⟨_, PySem.W.mg_of X G v_MAX_SLOWNESS⟩, c_RULES := ⟨_, PySem.W.mg_of X G v_RULES, ktup_of w_RULES e_RULES (by decide)⟩, c_USUAL_SLOWNESS := ⟨_, PySem.W.mg_of X G v_USUAL_SLOWNESS⟩ }
  have tb13 : PySem.W.tabIn K "_law_odd_right" = some (cA13, Pt13) := tabIn_of a13 l13 v13 p13
  have hlam : ∀ x ∈ lamNames, ∃ c P, PySem.W.tabIn K x = some (c, P) ∧ K.lookup P = none := fun x hx => by
    simp only [lamNames, List.mem_cons, List.not_mem_nil, or_false] at hx
    rcases hx with rfl
    · exact ⟨_, _, tb13, nP13⟩
  have hm13 : (Pt13, ("_law_odd_right" ++ ".<locals>." ++ "<lambda>" : Str)) ∈ lamT K := List.mem_filterMap.mpr ⟨"_law_odd_right", by simp [lamNames], by rw [tb13]; rfl⟩
  have hu13 : ∀ p ∈ lamT K, p.1 = Pt13 → p.2 = ("_law_odd_right" ++ ".<locals>." ++ "<lambda>" : Str) := fun p hp e => by
    obtain ⟨x, hx, e2⟩ := List.mem_filterMap.mp hp
    simp only [lamNames, List.mem_cons, List.not_mem_nil, or_false] at hx
    rcases hx with rfl
    · rw [tb13] at e2; cases e2; rfl
  refine ⟨hlam, PySem.W.fnOf "law" "law" (defArgs st_law) (defBody st_law) (defScope st_law) .none kV14 dc14 pm14 an14 cd14 ct14, f_law, fun s u => .of_eq rfl, plain, fun fuel base KB _ TBs => ?_⟩
  have q_InvalidSetting : M.x_InvalidSetting.choose = C_InvalidSetting := by
    have h := M.x_InvalidSetting.choose_spec.choose_spec.gC
    rw [PySem.W.mg_of X G aC_InvalidSetting] at h
    exact (Value.ref.inj (Option.some.inj h)).symm
  have q_UnknownName : M.x_UnknownName.choose = C_UnknownName := by
    have h := M.x_UnknownName.choose_spec.choose_spec.gC
    rw [PySem.W.mg_of X G aC_UnknownName] at h
    exact (Value.ref.inj (Option.some.inj h)).symm
  have d__law_heard : ∀ k, ToldL P w K mg base fuel k "_law_heard" 2 cl__law_heard := fun k => ⟨f__law_heard, ["_law_call", "e"], "_law_call", [(.ref M.x_InvalidSetting.choose, ⟨acc__law_heard_0, 1, hd__law_heard_0⟩), (.ref M.x_UnknownName.choose, ⟨acc__law_heard_1, 1, hd__law_heard_1⟩)], _, _, _, _, _, _, _, _, _, _, _, _, _, _, _, _, _, _, PySem.W.mg_of X G a__law_heard, k__law_heard, rfl, rfl, sc__law_heard, by first | exact Or.inl rfl | exact Or.inr (Or.inl rfl), by decide, by decide, fun _ => rfl, l__law_heard, c__law_heard, Binds.all (fun us hl => match us, hl with | [_], _ => rfl), rfl, (fun p hp cn b C0 ha hm => by
    simp only [List.mem_cons, List.not_mem_nil, or_false] at hp
    rcases hp with rfl | rfl
    · show PySem.W.exmOne K (.ref C0) (.ref M.x_InvalidSetting.choose) = some b
      rw [q_InvalidSetting]
      replace ha : acc__law_heard_0 cn = some b := ha
      unfold acc__law_heard_0 at ha
      split at ha
      · rename_i e; subst e; cases ha; rw [PySem.W.mg_of X G aC_InvalidSetting] at hm; cases hm; exact PySem.W.exm_ref eC_InvalidSetting hC_InvalidSetting tC_InvalidSetting su_InvalidSetting_InvalidSetting
      · skip
        split at ha
        · rename_i e; subst e; cases ha; rw [PySem.W.mg_of X G aC_UnknownName] at hm; cases hm; exact PySem.W.exm_ref eC_InvalidSetting hC_InvalidSetting tC_InvalidSetting su_UnknownName_InvalidSetting
        · skip
          cases ha
    · show PySem.W.exmOne K (.ref C0) (.ref M.x_UnknownName.choose) = some b
      rw [q_UnknownName]
      replace ha : acc__law_heard_1 cn = some b := ha
      unfold acc__law_heard_1 at ha
      split at ha
      · rename_i e; subst e; cases ha; rw [PySem.W.mg_of X G aC_InvalidSetting] at hm; cases hm; exact PySem.W.exm_ref eC_UnknownName hC_UnknownName tC_UnknownName su_InvalidSetting_UnknownName
      · skip
        split at ha
        · rename_i e; subst e; cases ha; rw [PySem.W.mg_of X G aC_UnknownName] at hm; cases hm; exact PySem.W.exm_ref eC_UnknownName hC_UnknownName tC_UnknownName su_UnknownName_UnknownName
        · skip
          cases ha
    ), (by exact s__law_heard M)⟩
  have d__law_numbers : DefG P w K mg base fuel 1 "_law_numbers" ["_law_cell", "_law_salt", "_law_sizes"] [] f__law_numbers := defG_of X G a0 l0 c0 k0 sc__law_numbers (fun us hl => match us, hl with | [_, _, _], _ => rfl) (b__law_numbers M )
  have d__law_draw : DefG P w K mg base fuel 1 "_law_draw" ["_law_state", "_law_many"] [] f__law_draw := defG_of X G a1 l1 c1 k1 sc__law_draw (fun us hl => match us, hl with | [_, _], _ => rfl) (b__law_draw M )
  have d__law_slow : DefG P w K mg base fuel 2 "_law_slow" ["_law_state"] [] f__law_slow := defG_of X G a2 l2 c2 k2 sc__law_slow (fun us hl => match us, hl with | [_], _ => rfl) (b__law_slow M d__law_draw)
  have d_is_name : DefG P w K mg base fuel 1 "is_name" ["value"] [] f_is_name := defG_of X G a3 l3 c3 k3 sc_is_name (fun us hl => match us, hl with | [_], _ => rfl) (b_is_name M )
  have d_is_integer : DefG P w K mg base fuel 1 "is_integer" ["value"] [] f_is_integer := defG_of X G a4 l4 c4 k4 sc_is_integer (fun us hl => match us, hl with | [_], _ => rfl) (b_is_integer M )
  have d_is_between : DefG P w K mg base fuel 2 "is_between" ["value", "least", "most"] [] f_is_between := defG_of X G a5 l5 c5 k5 sc_is_between (fun us hl => match us, hl with | [_, _, _], _ => rfl) (b_is_between M d_is_integer)
  have d_are_slownesses : DefG P w K mg base fuel 3 "are_slownesses" ["value"] [] f_are_slownesses := defG_of X G a6 l6 c6 k6 sc_are_slownesses (fun us hl => match us, hl with | [_], _ => rfl) (b_are_slownesses M d_is_name d_is_between)
  have d_Setting_init_k1 : MkGK P w K mg base fuel 4 "Setting" ["self", "slownesses", "rule"] ["rule"] 1 [] f_Setting_init := by
    have F : FunD K "__init__" "Setting.__init__" (defArgs st_Setting_init) (defBody st_Setting_init) (defScope st_Setting_init) [V.non] [("rule", V.str "turn")] f7 _ := ⟨⟨_, _, _, _, _, _, _, _, _, _, rfl, l7, c7, .inr ⟨by simp, T7, _, [Value.none], _, rfl, lT7, rfl, .cons rfl (.nil)⟩, .inr ⟨Dk7, rfl, fun z hz => by simp only [List.mem_cons, List.not_mem_nil, or_false] at hz; subst hz; exact ⟨_, qk7_0, ⟨_, rfl⟩⟩⟩⟩, k7⟩
    obtain ⟨its, KB2⟩ := F.kbindsD (ps := ["self", "slownesses", "rule"]) 2 ["rule"] (fun us ds ws => us ++ ds.drop 1 ++ ws) (by simp) (fun r1 r2 r3 => (r1.append (r2.drop 1)).append r3) (fun T kV doc pm an cdv ct us its ws hl hi hw => match us, its, ws, hl, hi, hw with | [a0, a1], [e0], [z0], _, _, _ => ⟨_, rfl, rfl⟩)
    exact ⟨C_Setting, f7, _, its.drop 1, [], ⟨PySem.W.mg_of X G aC_Setting, ⟨kpg_Setting, khd_Setting, kpo_Setting, ksa_Setting⟩⟩, ⟨kmk7, kin7, kfn7, kkp7⟩, KB2.to, by simpa using KB2.rel (vs := []) (us := []) (zs := []) (ws := []) .nil .nil, fun _ _ => .nil, fnG_of l7 c7 sc_Setting_init (b_Setting_init M d_are_slownesses)⟩
  have d_Setting_init_k0 : MkGK P w K mg base fuel 4 "Setting" ["self", "slownesses", "rule"] ["rule"] 0 [.non] f_Setting_init := by
    have F : FunD K "__init__" "Setting.__init__" (defArgs st_Setting_init) (defBody st_Setting_init) (defScope st_Setting_init) [V.non] [("rule", V.str "turn")] f7 _ := ⟨⟨_, _, _, _, _, _, _, _, _, _, rfl, l7, c7, .inr ⟨by simp, T7, _, [Value.none], _, rfl, lT7, rfl, .cons rfl (.nil)⟩, .inr ⟨Dk7, rfl, fun z hz => by simp only [List.mem_cons, List.not_mem_nil, or_false] at hz; subst hz; exact ⟨_, qk7_0, ⟨_, rfl⟩⟩⟩⟩, k7⟩
    obtain ⟨its, KB2⟩ := F.kbindsD (ps := ["self", "slownesses", "rule"]) 1 ["rule"] (fun us ds ws => us ++ ds.drop 0 ++ ws) (by simp) (fun r1 r2 r3 => (r1.append (r2.drop 0)).append r3) (fun T kV doc pm an cdv ct us its ws hl hi hw => match us, its, ws, hl, hi, hw with | [a0], [e0], [z0], _, _, _ => ⟨_, rfl, rfl⟩)
    exact ⟨C_Setting, f7, _, its.drop 0, [V.non], ⟨PySem.W.mg_of X G aC_Setting, ⟨kpg_Setting, khd_Setting, kpo_Setting, ksa_Setting⟩⟩, ⟨kmk7, kin7, kfn7, kkp7⟩, KB2.to, by simpa using KB2.rel (vs := []) (us := []) (zs := []) (ws := []) .nil .nil, fun _ _ => .cons (by simp only [Rel]) (.nil), fnG_of l7 c7 sc_Setting_init (b_Setting_init M d_are_slownesses)⟩
  have d_Setting_init_1 : MkG P w K mg base fuel 4 "Setting" ["self", "slownesses", "rule"] [.non, (.str "turn")] f_Setting_init := by
    have F : FunD K "__init__" "Setting.__init__" (defArgs st_Setting_init) (defBody st_Setting_init) (defScope st_Setting_init) [V.non] [("rule", V.str "turn")] f7 _ := ⟨⟨_, _, _, _, _, _, _, _, _, _, rfl, l7, c7, .inr ⟨by simp, T7, _, [Value.none], _, rfl, lT7, rfl, .cons rfl (.nil)⟩, .inr ⟨Dk7, rfl, fun z hz => by simp only [List.mem_cons, List.not_mem_nil, or_false] at hz; subst hz; exact ⟨_, qk7_0, ⟨_, rfl⟩⟩⟩⟩, k7⟩
    obtain ⟨ds, hd, hb⟩ := F.binds (ps := ["self", "slownesses", "rule"]) 1 0 (by simp) (by rfl) (fun T D doc pm an cdv ct us its ks hl hi hk => match us, its, ks, hl, hi, hk with | [a0], [e0], [k0], _, _, _ => ⟨_, rfl, ⟨_, _, _, _, _, _, rfl, rfl, rfl⟩⟩) (by simp)
    exact ⟨C_Setting, f7, _, ds, _, ⟨PySem.W.mg_of X G aC_Setting, ⟨kpg_Setting, khd_Setting, kpo_Setting, ksa_Setting⟩⟩, ⟨kmk7, kin7, kfn7, kkp7⟩, hb, hd, fun _ _ => .cons (by simp only [Rel]) (.cons (by simp only [Rel]) (.nil)), fnG_of l7 c7 sc_Setting_init (b_Setting_init M d_are_slownesses)⟩
  have d_Setting_init_2 : MkG P w K mg base fuel 4 "Setting" ["self", "slownesses", "rule"] [(.str "turn")] f_Setting_init := by
    have F : FunD K "__init__" "Setting.__init__" (defArgs st_Setting_init) (defBody st_Setting_init) (defScope st_Setting_init) [V.non] [("rule", V.str "turn")] f7 _ := ⟨⟨_, _, _, _, _, _, _, _, _, _, rfl, l7, c7, .inr ⟨by simp, T7, _, [Value.none], _, rfl, lT7, rfl, .cons rfl (.nil)⟩, .inr ⟨Dk7, rfl, fun z hz => by simp only [List.mem_cons, List.not_mem_nil, or_false] at hz; subst hz; exact ⟨_, qk7_0, ⟨_, rfl⟩⟩⟩⟩, k7⟩
    obtain ⟨ds, hd, hb⟩ := F.binds (ps := ["self", "slownesses", "rule"]) 2 1 (by simp) (by rfl) (fun T D doc pm an cdv ct us its ks hl hi hk => match us, its, ks, hl, hi, hk with | [a0, a1], [e0], [k0], _, _, _ => ⟨_, rfl, ⟨_, _, _, _, _, _, rfl, rfl, rfl⟩⟩) (by simp)
    exact ⟨C_Setting, f7, _, ds, _, ⟨PySem.W.mg_of X G aC_Setting, ⟨kpg_Setting, khd_Setting, kpo_Setting, ksa_Setting⟩⟩, ⟨kmk7, kin7, kfn7, kkp7⟩, hb, hd, fun _ _ => .cons (by simp only [Rel]) (.nil), fnG_of l7 c7 sc_Setting_init (b_Setting_init M d_are_slownesses)⟩
  have d_Setting_slowness : MethG P w K mg base fuel 2 "Setting" "slowness" ["self", "part"] [] f_Setting_slowness := ⟨C_Setting, f8, _, [], [], ⟨PySem.W.mg_of X G aC_Setting, ⟨kpg_Setting, khd_Setting, kpo_Setting, ksa_Setting⟩⟩, ⟨kmm8, kfn8, k8⟩, Binds.all (fun us hl => match us, hl with | [_, _], _ => rfl), .nil, fun _ _ => .nil, fnG_of l8 c8 sc_Setting_slowness (b_Setting_slowness M d_is_name)⟩
  have d_Setting_rule : PropG P w K mg base fuel 1 "Setting" "rule" f_Setting_rule := ⟨C_Setting, pp9, f9, _, ["self"], ⟨PySem.W.mg_of X G aC_Setting, ⟨kpg_Setting, khd_Setting, kpo_Setting, ksa_Setting⟩⟩, ⟨kpp9, kpt9, kpk9, ⟨_, kpr9⟩⟩, rfl, Binds.all (fun us hl => match us, hl with | [_], _ => rfl), fnG_of l9 c9 sc_Setting_rule (b_Setting_rule M )⟩
  have d_Setting_with_slowness : MethG P w K mg base fuel 6 "Setting" "with_slowness" ["self", "part", "slowness"] [] f_Setting_with_slowness := ⟨C_Setting, f10, _, [], [], ⟨PySem.W.mg_of X G aC_Setting, ⟨kpg_Setting, khd_Setting, kpo_Setting, ksa_Setting⟩⟩, ⟨kmm10, kfn10, k10⟩, Binds.all (fun us hl => match us, hl with | [_, _, _], _ => rfl), .nil, fun _ _ => .nil, fnG_of l10 c10 sc_Setting_with_slowness (b_Setting_with_slowness M d_is_name d_is_between d_Setting_init_k1)⟩
  have d_Setting_eq : MethG P w K mg base fuel 1 "Setting" "__eq__" ["self", "other"] [] f_Setting_eq := ⟨C_Setting, f11, _, [], [], ⟨PySem.W.mg_of X G aC_Setting, ⟨kpg_Setting, khd_Setting, kpo_Setting, ksa_Setting⟩⟩, ⟨kmm11, kfn11, k11⟩, Binds.all (fun us hl => match us, hl with | [_, _], _ => rfl), .nil, fun _ _ => .nil, fnG_of l11 c11 sc_Setting_eq (b_Setting_eq M )⟩
  have d__law_right : DefG P w K mg base fuel 7 "_law_right" ["_law_state"] [] f__law_right := defG_of X G a12 l12 c12 k12 sc__law_right (fun us hl => match us, hl with | [_], _ => rfl) (b__law_right M d__law_draw d__law_slow d_Setting_init_k1 d_Setting_slowness d_Setting_rule d_Setting_with_slowness d_Setting_eq)
  have d__law_odd_right : DefG P w K mg base fuel 9 "_law_odd_right" [] [] f__law_odd_right := defG_ofL X G a13 l13 c13 k13 sc__law_odd_right (fun us hl => match us, hl with | [], _ => rfl) (b__law_odd_right M d_Setting_init_k1 d_Setting_init_1 d_Setting_with_slowness d_Setting_eq d_Setting_init_2 d_Setting_init_k0 d_Setting_rule d__law_heard ⟨codeHd_one KB v13 ch13, (TBs _ hm13).1, (TBs _ hm13).2⟩ hm13 hu13)
  exact fnG_of l14 c14 sc_law (b_law M d__law_numbers d__law_right d__law_odd_right)
end K09
open PySem PySem.W PyProof.Rows
set_option maxRecDepth 100000 in
set_option maxHeartbeats 0 in
theorem PySem.Challenge.cw_whatiftimes_k09_settings_holds : PySem.Challenge.rw_whatiftimes_k09_settings.Holds := by
  w_on; o_law; k_head; (case hw => w_witness2)
  k_fill
  refine SL.walkG (l := PySem.Challenge.rw_whatiftimes_k09_settings) (n := 63) (k := 10) (x := "_law_script") rfl (by decide) rfl ⟨rfl, by decide, by decide⟩ (fun w h Y => PySem.W.km_in_of Y) (by first | (intro x hx; simp [SL.lamNames] at hx; done) | decide +kernel) ?F
  case F =>
    intro w mg fa h KX G hmg
    refine' K09.all_mk KX G hmg ?aC_Setting ?kpg_Setting ?khd_Setting ?kpo_Setting ?ksa_Setting ?kna_Setting_own_slownesses ?kna_Setting_own_rule ?a0 ?l0 ?c0 ?k0 ?a1 ?l1 ?c1 ?k1 ?a2 ?l2 ?c2 ?k2 ?a3 ?l3 ?c3 ?k3 ?a4 ?l4 ?c4 ?k4 ?a5 ?l5 ?c5 ?k5 ?a6 ?l6 ?c6 ?k6 ?kmk7 ?kin7 ?kkp7 ?l7 ?qk7_0 ?lT7 ?c7 ?k7 ?kfn7 ?kmm8 ?l8 ?c8 ?k8 ?kfn8 ?kpp9 ?kpt9 ?kpk9 ?kpr9 ?l9 ?c9 ?k9 ?kfn9 ?kmm10 ?l10 ?c10 ?k10 ?kfn10 ?kmm11 ?l11 ?c11 ?k11 ?kfn11 ?a12 ?l12 ?c12 ?k12 ?a13 ?l13 ?c13 ?k13 ?v13 ?p13 ?nP13 ?ch13 ?a14 ?l14 ?c14 ?k14 ?a__law_heard ?l__law_heard ?c__law_heard ?k__law_heard ?aC_InvalidSetting ?xL_InvalidSetting ?bm_InvalidSetting ?sa_InvalidSetting ?ga_InvalidSetting ?gg_InvalidSetting ?nb_InvalidSetting ?ai_InvalidSetting ?ti_InvalidSetting ?li_InvalidSetting ?ci_InvalidSetting ?kC_InvalidSetting ?eC_InvalidSetting ?tC_InvalidSetting ?hC_InvalidSetting ?aC_UnknownName ?xL_UnknownName ?bm_UnknownName ?sa_UnknownName ?ga_UnknownName ?gg_UnknownName ?nb_UnknownName ?ai_UnknownName ?ti_UnknownName ?li_UnknownName ?ci_UnknownName ?kC_UnknownName ?eC_UnknownName ?tC_UnknownName ?hC_UnknownName ?aC_TimesError ?su_InvalidSetting_InvalidSetting ?su_InvalidSetting_UnknownName ?su_UnknownName_InvalidSetting ?su_UnknownName_UnknownName ?hcA_InvalidSetting ?hcM_InvalidSetting ?hcA_Setting ?hcM_Setting ?hcC_Setting ?neN_Setting ?neO_Setting ?hcN ?hcT ?ki_InvalidSetting_TimesError ?z_enumerate ?z_int ?z_max ?z_range ?z_len ?z_dict ?z_isinstance ?z_all ?z_str ?z_bool ?z_sorted ?z_list ?z_repr ?v_MAX_LETTERS ?v_LOWERCASE ?v_MAX_SLOWNESS ?v_RULES ?w_RULES ?e_RULES ?v_USUAL_SLOWNESS
    (case aC_Setting => k_is)
    (case kpg_Setting => (first | rfl | k_is))
    (case khd_Setting => (first | rfl | k_is))
    (case kpo_Setting => (first | rfl | k_is))
    (case ksa_Setting => (first | rfl | k_is))
    (case kna_Setting_own_slownesses => k_is)
    (case kna_Setting_own_rule => k_is)
    (case a0 => k_is)
    (case l0 => k_is)
    (case c0 => k_is)
    (case k0 => k_is)
    (case a1 => k_is)
    (case l1 => k_is)
    (case c1 => k_is)
    (case k1 => k_is)
    (case a2 => k_is)
    (case l2 => k_is)
    (case c2 => k_is)
    (case k2 => k_is)
    (case a3 => k_is)
    (case l3 => k_is)
    (case c3 => k_is)
    (case k3 => k_is)
    (case a4 => k_is)
    (case l4 => k_is)
    (case c4 => k_is)
    (case k4 => k_is)
    (case a5 => k_is)
    (case l5 => k_is)
    (case c5 => k_is)
    (case k5 => k_is)
    (case a6 => k_is)
    (case l6 => k_is)
    (case c6 => k_is)
    (case k6 => k_is)
    (case kmk7 => (first | rfl | k_is))
    (case kin7 => k_is)
    (case kkp7 => k_is)
    (case l7 => k_is)
    (case qk7_0 => k_is)
    (case lT7 => k_is)
    (case c7 => k_is)
    (case k7 => k_is)
    (case kfn7 => (first | rfl | k_is))
    (case kmm8 => k_is)
    (case l8 => k_is)
    (case c8 => k_is)
    (case k8 => k_is)
    (case kfn8 => (first | rfl | k_is))
    (case kpp9 => k_is)
    (case kpt9 => (first | k_is | rfl))
    (case kpk9 => (first | k_is | rfl))
    (case kpr9 => (first | k_is | rfl))
    (case l9 => k_is)
    (case c9 => k_is)
    (case k9 => k_is)
    (case kfn9 => (first | rfl | k_is))
    (case kmm10 => k_is)
    (case l10 => k_is)
    (case c10 => k_is)
    (case k10 => k_is)
    (case kfn10 => (first | rfl | k_is))
    (case kmm11 => k_is)
    (case l11 => k_is)
    (case c11 => k_is)
    (case k11 => k_is)
    (case kfn11 => (first | rfl | k_is))
    (case a12 => k_is)
    (case l12 => k_is)
    (case c12 => k_is)
    (case k12 => k_is)
    (case a13 => k_is)
    (case l13 => k_is)
    (case c13 => k_is)
    (case k13 => k_is)
    (case v13 => k_is)
    (case p13 => rfl)
    (case nP13 => (first | rfl | k_is))
    (case ch13 => rfl)
    (case a14 => k_is)
    (case l14 => k_is)
    (case c14 => k_is)
    (case k14 => k_is)
    (case a__law_heard => k_is)
    (case l__law_heard => k_is)
    (case c__law_heard => k_is)
    (case k__law_heard => k_is)
    (case aC_InvalidSetting => k_is)
    (case xL_InvalidSetting => k_is)
    (case bm_InvalidSetting => rfl)
    (case sa_InvalidSetting => k_is)
    (case ga_InvalidSetting => k_is)
    (case gg_InvalidSetting => k_is)
    (case nb_InvalidSetting => k_is)
    (case ai_InvalidSetting => k_is)
    (case ti_InvalidSetting => k_is)
    (case li_InvalidSetting => k_is)
    (case ci_InvalidSetting => k_is)
    (case kC_InvalidSetting => k_is)
    (case eC_InvalidSetting => k_is)
    (case tC_InvalidSetting => k_is)
    (case hC_InvalidSetting => k_is)
    (case aC_UnknownName => k_is)
    (case xL_UnknownName => k_is)
    (case bm_UnknownName => rfl)
    (case sa_UnknownName => k_is)
    (case ga_UnknownName => k_is)
    (case gg_UnknownName => k_is)
    (case nb_UnknownName => k_is)
    (case ai_UnknownName => k_is)
    (case ti_UnknownName => k_is)
    (case li_UnknownName => k_is)
    (case ci_UnknownName => k_is)
    (case kC_UnknownName => k_is)
    (case eC_UnknownName => k_is)
    (case tC_UnknownName => k_is)
    (case hC_UnknownName => k_is)
    (case aC_TimesError => k_is)
    (case su_InvalidSetting_InvalidSetting => (first | rfl | k_is))
    (case su_InvalidSetting_UnknownName => (first | rfl | k_is))
    (case su_UnknownName_InvalidSetting => (first | rfl | k_is))
    (case su_UnknownName_UnknownName => (first | rfl | k_is))
    (case hcA_InvalidSetting => k_is)
    (case hcM_InvalidSetting => (first | k_is | rfl))
    (case hcA_Setting => k_is)
    (case hcM_Setting => (first | k_is | rfl))
    (case hcC_Setting => (first | rfl | k_is))
    (case neN_Setting => k_is)
    (case neO_Setting => (first | k_is | rfl))
    (case hcN => (first | k_is | rfl))
    (case hcT => (first | k_is | rfl))
    (case ki_InvalidSetting_TimesError => (first | rfl | k_is))
    (case z_enumerate => k_is)
    (case z_int => k_is)
    (case z_max => k_is)
    (case z_range => k_is)
    (case z_len => k_is)
    (case z_dict => k_is)
    (case z_isinstance => k_is)
    (case z_all => k_is)
    (case z_str => k_is)
    (case z_bool => k_is)
    (case z_sorted => k_is)
    (case z_list => k_is)
    (case z_repr => k_is)
    (case v_MAX_LETTERS => k_is)
    (case v_LOWERCASE => k_is)
    (case v_MAX_SLOWNESS => k_is)
    (case v_RULES => k_is)
    (case w_RULES => k_is)
    (case e_RULES => (repeat' (first | exact True.intro | exact ⟨_, rfl⟩ | rfl | constructor)))
    (case v_USUAL_SLOWNESS => k_is)
