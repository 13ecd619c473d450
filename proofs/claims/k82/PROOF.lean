import PyProof.Rows.All
import Wide.All
import OpenK.AllK
import Wide.FinOn
import HandS.ForMost
import HandS.ForExc
import HandS.Wide
import HandS.TupAny
import HandS.TupMul
import HandS.NoneIn
import HandS.Gcd
import HandS.Rev
import HandS.Style
import HandS.IsInst
import HandS.Conv
import HandS.Zip
import HandS.Deep
import HandS.SortInts
import HandS.ExcOwn
import HandS.CallSlots
import HandS.Small
import HandS.Walk
import KE.GoesEnum
import KE.GoesMore
import HandS.Words
import HandS.WordsExc
import PySem.Challenge.RW_stepswithin_k82_whole_least_words_to_goa
section
set_option Elab.async false
set_option linter.all false
set_option maxRecDepth 100000
set_option maxHeartbeats 4000000
namespace BL
open PySem PySem.Spec PyProof.Rows L2

/-- a datum -/
inductive D where
  | non | bl (b : Bool) | int (i : Int) | str (x : Str)
  | tup (xs : List D) | lst (xs : List D) | dk (kvs : List (Key × D)) | op (v : V) | st | scr (ns : List Int)
  deriving Inhabited

/-- the drawing state -/
structure LS where
  on : Bool
  cells : List Int
  lefts : List Int
  here : Int

/-- an own error: its class by name, its field -/
structure Exn where
  cls : String
  fs : List (Str × D)

inductive Res (α : Type) where
  | bad
  | ok (a : α) (s : LS)
  | ex (e : Exn) (s : LS)

abbrev M (α : Type) : Type := LS → Res α
@[inline] def M.pure {α : Type} (a : α) : M α := fun s => .ok a s
def M.bad {α : Type} : M α := fun _ => .bad
def M.ex {α : Type} (e : Exn) : M α := fun s => .ex e s
def M.bind {α β : Type} (m : M α) (f : α → M β) : M β := fun s => match m s with
  | .bad => .bad
  | .ok a s' => f a s'
  | .ex e s' => .ex e s'
def M.opt {α : Type} : Option α → M α
  | some a => M.pure a
  | none => M.bad
/-- how a value may be used: shared, fresh, borrowed -/
inductive Fg where
  | sh | fr | bo
  deriving DecidableEq, Inhabited
/-- slots -/
abbrev Env1 := List (Option (Bool × D))

/-- the hidden part -/
def mn (O : Addr → Bool) (ow : List Addr) (H : Hp) : Hp := fun a => if O a = true ∨ a ∈ ow then none else H a

theorem mn_some {O : Addr → Bool} {ow : List Addr} {H : Hp} {a : Addr} {o : HO} (h : mn O ow H a = some o) : H a = some o ∧ O a = false ∧ a ∉ ow := by
  unfold mn at h
  split at h
  · cases h
  · rename_i hn
    refine ⟨h, ?_, fun z => hn (.inr z)⟩
    cases e : O a with
    | false => rfl
    | true => exact absurd (.inl e) hn
theorem mn_of {O : Addr → Bool} {ow : List Addr} {H : Hp} {a : Addr} {o : HO} (h : H a = some o) (h1 : O a = false) (h2 : a ∉ ow) : mn O ow H a = some o := by
  unfold mn
  rw [if_neg]
  · exact h
  · intro z
    rcases z with z | z
    · rw [h1] at z; cases z
    · exact h2 z

/-! ### what a value is -/
mutual
inductive RD (K : PySem.W.Frag) (sa : Addr) (H : Hp) : V → D → Prop
  | non : RD K sa H .non .non
  | bl (b : Bool) : RD K sa H (.bl b) (.bl b)
  | int (i : Int) : RD K sa H (.int i) (.int i)
  | str (x : Str) : RD K sa H (.str x) (.str x)
  | lst {a : Addr} {xs : List V} {ds : List D} : H a = some (.lst xs) → RDs K sa H xs ds → RD K sa H (.ref a) (.lst ds)
  | tup {a : Addr} {xs : List V} {ds : List D} : SqT K H a xs → RDs K sa H xs ds → RD K sa H (.ref a) (.tup ds)
  | dk {a : Addr} {kvs : List (Key × V)} {ds : List (Key × D)} : H a = some (.dK kvs) → RDk K sa H kvs ds → RD K sa H (.ref a) (.dk ds)
  | op (v : V) : RD K sa H v (.op v)
  | st : RD K sa H (.ref sa) .st
  | scr {a : Addr} {ns : List Int} : SqL K H a (ns.map V.int) → RD K sa H (.ref a) (.scr ns)
inductive RDs (K : PySem.W.Frag) (sa : Addr) (H : Hp) : List V → List D → Prop
  | nil : RDs K sa H [] []
  | cons {v : V} {vs : List V} {d : D} {ds : List D} : RD K sa H v d → RDs K sa H vs ds → RDs K sa H (v :: vs) (d :: ds)
inductive RDk (K : PySem.W.Frag) (sa : Addr) (H : Hp) : List (Key × V) → List (Key × D) → Prop
  | nil : RDk K sa H [] []
  | cons {k : Key} {v : V} {vs : List (Key × V)} {d : D} {ds : List (Key × D)} : RD K sa H v d → RDk K sa H vs ds → RDk K sa H ((k, v) :: vs) ((k, d) :: ds)
end

theorem Same.sqT {K : PySem.W.Frag} {H H' : Hp} {a : Addr} {xs : List V} (e : Same H H') (h : SqT K H a xs) : SqT K H' a xs := by
  rcases h with (h | ⟨o, h⟩) | h
  · exact .inl (.inl (e _ _ h))
  · exact .inl (.inr ⟨o, e _ _ h⟩)
  · exact .inr h

theorem Same.sqL {K : PySem.W.Frag} {H H' : Hp} {a : Addr} {xs : List V} (e : Same H H') (h : SqL K H a xs) : SqL K H' a xs := h.imp (Or.imp (e _ _) fun ⟨o, q⟩ => ⟨o, e _ _ q⟩) id
mutual
theorem RD.mono {K : PySem.W.Frag} {sa : Addr} {H H' : Hp} (e : Same H H') : ∀ {v : V} {d : D}, RD K sa H v d → RD K sa H' v d
  | _, _, .non => .non
  | _, _, .bl b => .bl b
  | _, _, .int i => .int i
  | _, _, .str x => .str x
  | _, _, .lst h r => .lst (e _ _ h) (RDs.mono e r)
  | _, _, .tup h r => .tup (Same.sqT e h) (RDs.mono e r)
  | _, _, .dk h r => .dk (e _ _ h) (RDk.mono e r)
  | _, _, .op v => .op v
  | _, _, .st => .st
  | _, _, .scr h => .scr (Same.sqL e h)
theorem RDs.mono {K : PySem.W.Frag} {sa : Addr} {H H' : Hp} (e : Same H H') : ∀ {v : List V} {d : List D}, RDs K sa H v d → RDs K sa H' v d
  | _, _, .nil => .nil
  | _, _, .cons a b => .cons (RD.mono e a) (RDs.mono e b)
theorem RDk.mono {K : PySem.W.Frag} {sa : Addr} {H H' : Hp} (e : Same H H') : ∀ {v : List (Key × V)} {d : List (Key × D)}, RDk K sa H v d → RDk K sa H' v d
  | _, _, .nil => .nil
  | _, _, .cons a b => .cons (RD.mono e a) (RDk.mono e b)
end
theorem RDs.length {K : PySem.W.Frag} {sa : Addr} {H : Hp} : ∀ {vs : List V} {ds : List D}, RDs K sa H vs ds → vs.length = ds.length
  | _, _, .nil => rfl
  | _, _, .cons _ b => by rw [List.length_cons, List.length_cons, b.length]
theorem RDs.get {K : PySem.W.Frag} {sa : Addr} {H : Hp} : ∀ {vs : List V} {ds : List D} {i : Nat} {d : D}, RDs K sa H vs ds → ds[i]? = some d → ∃ v, vs[i]? = some v ∧ RD K sa H v d
  | _, _, _, _, .nil, h => by simp at h
  | _, _, 0, _, .cons a _, h => by simp at h; subst h; exact ⟨_, rfl, a⟩
  | _, _, i + 1, _, .cons _ b, h => by
    obtain ⟨v, h1, h2⟩ := RDs.get (i := i) b (by simpa using h)
    exact ⟨v, by simpa using h1, h2⟩
theorem RDs.append {K : PySem.W.Frag} {sa : Addr} {H : Hp} : ∀ {vs us : List V} {ds es : List D}, RDs K sa H vs ds → RDs K sa H us es → RDs K sa H (vs ++ us) (ds ++ es)
  | _, _, _, _, .nil, h => h
  | _, _, _, _, .cons a b, h => .cons a (b.append h)
end BL
end

section
set_option Elab.async false
set_option linter.all false
set_option maxRecDepth 100000
set_option maxHeartbeats 4000000
namespace BL
open PySem PySem.Spec PyProof.Rows L2

abbrev Sg := L2.St
structure Bx where
  K : PySem.W.Frag
  sa : Addr
  O : Addr → Bool
  H0 : Hp
  stt : Option (Addr × Addr)
  exC : String → Option Addr

def Bx.S (bx : Bx) (a : Addr) : Bool := match bx.stt with
  | none => false
  | some (_, la) => a == bx.sa || a == la

def kvState (ca la : Addr) (n : Int) : List (Key × V) :=
  [(.inr (Str.ofString "cells"), .ref ca), (.inr (Str.ofString "lefts"), .ref la), (.inr (Str.ofString "at"), .int n)]

/-- the drawing state lies in the heap -/
def LSR (bx : Bx) (H : Hp) (ls : LS) : Prop := match bx.stt with
  | none => ls.on = false
  | some (ca, la) => ls.on = true ∧ bx.sa ≠ la ∧ bx.sa ≠ ca ∧ ca ≠ la ∧ ls.lefts.length = ls.cells.length ∧ 0 < ls.cells.length ∧ ls.cells.length ≤ 63 ∧ 0 ≤ ls.here ∧
      H bx.sa = some (.dK (kvState ca la ls.here)) ∧ H ca = some (.lst (ls.cells.map V.int)) ∧ H la = some (.lst (ls.lefts.map V.int))

def Kept (bx : Bx) (H H' : Hp) : Prop := ∀ a o, H a = some o → bx.S a = false → H' a = some o
theorem Kept.refl {bx : Bx} {H : Hp} : Kept bx H H := fun _ _ h _ => h
theorem Kept.trans {bx : Bx} {H H1 H2 : Hp} (a : Kept bx H H1) (b : Kept bx H1 H2) : Kept bx H H2 := fun c o h s => b c o (a c o h s) s

theorem LSR.dom {bx : Bx} {H : Hp} {ls : LS} (h : LSR bx H ls) {a : Addr} (s : bx.S a = true) : H a ≠ none := by
  unfold Bx.S at s
  unfold LSR at h
  split at s
  · cases s
  · rename_i ca la e
    rw [e] at h
    obtain ⟨_, _, _, _, _, _, _, _, h1, _, h2⟩ := h
    rcases Bool.or_eq_true_iff.mp s with z | z
    · have z' := beq_iff_eq.mp z
      rw [z', h1]; simp
    · have z' := beq_iff_eq.mp z
      rw [z', h2]; simp

/-- what is at an address of one's own: items that hide it -/
def Top (bx : Bx) (ow : List Addr) (H : Hp) (p : Addr) : D → Prop
  | .lst ds => ∃ vs, H p = some (.lst vs) ∧ RDs bx.K bx.sa (mn bx.O ow H) vs ds
  | .dk kvs => ∃ ks, H p = some (.dK ks) ∧ RDk bx.K bx.sa (mn bx.O ow H) ks kvs
  | _ => False

structure Bas (bx : Bx) (ow : List Addr) (H : Hp) (ls : LS) : Prop where
  fr : ∀ p ∈ ow, bx.H0 p = none ∧ bx.O p = false ∧ H p ≠ none
  kept : Kept bx bx.H0 H
  sO : ∀ a, bx.S a = true → bx.O a = true
  oD : ∀ a, bx.O a = true → bx.H0 a ≠ none
  cO : ∀ ca la, bx.stt = some (ca, la) → bx.O ca = true
  lsr : LSR bx H ls
theorem Bas.dom {bx : Bx} {ow : List Addr} {H : Hp} {ls : LS} (b : Bas bx ow H ls) {p : Addr} (h : H p = none) : bx.O p = false ∧ p ∉ ow ∧ bx.S p = false ∧ bx.H0 p = none := by
  have hS : bx.S p = false := by
    cases e : bx.S p with
    | false => rfl
    | true => exact absurd h (b.lsr.dom e)
  have hH : bx.H0 p = none := by
    cases e : bx.H0 p with
    | none => rfl
    | some o => rw [b.kept p o e hS] at h; cases h
  refine ⟨?_, fun m => (b.fr p m).2.2 h, hS, hH⟩
  cases e : bx.O p with
  | false => rfl
  | true => exact absurd hH (b.oD p e)
theorem Bas.after {bx : Bx} {ow : List Addr} {H H' : Hp} {ls ls' : LS} (b : Bas bx ow H ls) (k : Kept bx H H') (l : LSR bx H' ls') : Bas bx ow H' ls' where
  fr := fun p m => by
    obtain ⟨h1, h2, h3⟩ := b.fr p m
    refine ⟨h1, h2, fun z => ?_⟩
    have hS : bx.S p = false := by
      cases e : bx.S p with
      | false => rfl
      | true => rw [b.sO p e] at h2; cases h2
    cases e : H p with
    | none => exact h3 e
    | some o => rw [k p o e hS] at z; cases z
  kept := b.kept.trans k
  sO := b.sO
  oD := b.oD
  cO := b.cO
  lsr := l
theorem Kept.mn {bx : Bx} {ow : List Addr} {H H' : Hp} {ls : LS} (k : Kept bx H H') (b : Bas bx ow H ls) : Same (mn bx.O ow H) (mn bx.O ow H') := fun a o h => by
  obtain ⟨h1, h2, h3⟩ := mn_some h
  refine mn_of (k a o h1 ?_) h2 h3
  cases e : bx.S a with
  | false => rfl
  | true => rw [b.sO a e] at h2; cases h2
theorem mn_sub {O : Addr → Bool} {ow ow' : List Addr} {H : Hp} (h : ∀ p ∈ ow', p ∈ ow) : Same (mn O ow H) (mn O ow' H) := fun a o e => by
  obtain ⟨h1, h2, h3⟩ := mn_some e
  exact mn_of h1 h2 fun z => h3 (h a z)
theorem Top.after {bx : Bx} {ow : List Addr} {H H' : Hp} {ls : LS} {p : Addr} {d : D} (t : Top bx ow H p d) (b : Bas bx ow H ls) (k : Kept bx H H') (hp : bx.S p = false) : Top bx ow H' p d := by
  cases d with
  | lst ds => obtain ⟨vs, h1, h2⟩ := t; exact ⟨vs, k p _ h1 hp, h2.mono (k.mn b)⟩
  | dk kvs => obtain ⟨vs, h1, h2⟩ := t; exact ⟨vs, k p _ h1 hp, h2.mono (k.mn b)⟩
  | _ => exact t.elim

structure Rel (bx : Bx) (ow : List Addr) (tmp : List Hp) (ρ : Env1) (σ : Sg) (H : Hp) (ls : LS) : Prop extends Bas bx ow H ls where
  len : ρ.length = σ.length
  sh : ∀ (i : Nat) d, ρ[i]? = some (some (false, d)) → ∃ v, σ[i]? = some (some v) ∧ RD bx.K bx.sa (mn bx.O ow H) v d
  own : ∀ (i : Nat) d, ρ[i]? = some (some (true, d)) → ∃ p, p ∈ ow ∧ σ[i]? = some (some (.ref p)) ∧ Top bx ow H p d
  inj : ∀ (i j : Nat) d e p, ρ[i]? = some (some (true, d)) → ρ[j]? = some (some (true, e)) → σ[i]? = some (some (.ref p)) → σ[j]? = some (some (.ref p)) → i = j
  tm : ∀ h ∈ tmp, Same h (mn bx.O ow H)

/-- a value that is read -/
inductive RB (bx : Bx) (ow : List Addr) (H : Hp) : V → D → Prop
  | sh {v : V} {d : D} : RD bx.K bx.sa (mn bx.O ow H) v d → RB bx ow H v d
  | own {p : Addr} {d : D} : p ∈ ow → Top bx ow H p d → RB bx ow H (.ref p) d
theorem mn_full {O : Addr → Bool} {ow : List Addr} {H : Hp} : Same (mn O ow H) H := fun a o h => (mn_some h).1
theorem RB.full {bx : Bx} {ow : List Addr} {H : Hp} {v : V} {d : D} (r : RB bx ow H v d) : RD bx.K bx.sa H v d := by
  cases r with
  | sh r => exact r.mono mn_full
  | @own p d m t =>
    cases d with
    | lst ds => obtain ⟨vs, h1, h2⟩ := t; exact .lst h1 (h2.mono mn_full)
    | dk ds => obtain ⟨vs, h1, h2⟩ := t; exact .dk h1 (h2.mono mn_full)
    | _ => exact (show False from t).elim
theorem RB.lst {bx : Bx} {ow : List Addr} {H : Hp} {v : V} {ds : List D} (r : RB bx ow H v (.lst ds)) : ∃ a vs, v = .ref a ∧ H a = some (.lst vs) ∧ RDs bx.K bx.sa (mn bx.O ow H) vs ds := by
  cases r with
  | sh r => cases r with | lst h r => exact ⟨_, _, rfl, (mn_some h).1, r⟩
  | own m t => obtain ⟨vs, h1, h2⟩ := t; exact ⟨_, vs, rfl, h1, h2⟩
theorem RB.dk {bx : Bx} {ow : List Addr} {H : Hp} {v : V} {ds : List (Key × D)} (r : RB bx ow H v (.dk ds)) : ∃ a vs, v = .ref a ∧ H a = some (.dK vs) ∧ RDk bx.K bx.sa (mn bx.O ow H) vs ds := by
  cases r with
  | sh r => cases r with | dk h r => exact ⟨_, _, rfl, (mn_some h).1, r⟩
  | own m t => obtain ⟨vs, h1, h2⟩ := t; exact ⟨_, vs, rfl, h1, h2⟩
theorem RB.tup {bx : Bx} {ow : List Addr} {H : Hp} {v : V} {ds : List D} (r : RB bx ow H v (.tup ds)) : RD bx.K bx.sa (mn bx.O ow H) v (.tup ds) ∧ ∃ a vs, v = .ref a ∧ SqT bx.K H a vs ∧ RDs bx.K bx.sa (mn bx.O ow H) vs ds := by
  cases r with
  | sh r => exact ⟨r, by cases r with | tup h r => exact ⟨_, _, rfl, Same.sqT mn_full h, r⟩⟩
  | own m t => exact (show False from t).elim
theorem RB.int {bx : Bx} {ow : List Addr} {H : Hp} {v : V} {i : Int} (r : RB bx ow H v (.int i)) : v = .int i := by
  cases r with
  | sh r => cases r; rfl
  | own m t => exact (show False from t).elim
theorem RB.bl {bx : Bx} {ow : List Addr} {H : Hp} {v : V} {i : Bool} (r : RB bx ow H v (.bl i)) : v = .bl i := by
  cases r with
  | sh r => cases r; rfl
  | own m t => exact (show False from t).elim
theorem RB.str {bx : Bx} {ow : List Addr} {H : Hp} {v : V} {i : Str} (r : RB bx ow H v (.str i)) : v = .str i := by
  cases r with
  | sh r => cases r; rfl
  | own m t => exact (show False from t).elim
theorem RB.non {bx : Bx} {ow : List Addr} {H : Hp} {v : V} (r : RB bx ow H v .non) : v = .non := by
  cases r with
  | sh r => cases r; rfl
  | own m t => exact (show False from t).elim
theorem RB.op {bx : Bx} {ow : List Addr} {H : Hp} {v u : V} (r : RB bx ow H v (.op u)) : v = u := by
  cases r with
  | sh r => cases r; rfl
  | own m t => exact (show False from t).elim
theorem RB.scr {bx : Bx} {ow : List Addr} {H : Hp} {v : V} {ns : List Int} (r : RB bx ow H v (.scr ns)) : ∃ a, v = .ref a ∧ SqL bx.K H a (ns.map V.int) := by
  cases r with
  | sh r => cases r with | scr h => exact ⟨_, rfl, Same.sqL mn_full h⟩
  | own m t => exact (show False from t).elim
theorem RB.after {bx : Bx} {ow : List Addr} {H H' : Hp} {ls : LS} {v : V} {d : D} (r : RB bx ow H v d) (b : Bas bx ow H ls) (k : Kept bx H H') : RB bx ow H' v d := by
  cases r with
  | sh r => exact .sh (r.mono (k.mn b))
  | own m t =>
    refine .own m (t.after b k ?_)
    have h2 := (b.fr _ m).2.1
    cases e : bx.S _ with
    | false => rfl
    | true => rw [b.sO _ e] at h2; cases h2
/-- behind an expression -/
structure EPost (bx : Bx) (ow : List Addr) (H : Hp) (v : V) (H' : Hp) (fr : Fg) (d : D) (ls' : LS) : Prop where
  kept : Kept bx H H'
  lsr : LSR bx H' ls'
  val : match fr with
    | .fr => ∃ p, v = .ref p ∧ H p = none ∧ Top bx (p :: ow) H' p d
    | .sh => RD bx.K bx.sa (mn bx.O ow H') v d
    | .bo => RB bx ow H' v d

/-- an error in the air -/
def ExR (bx : Bx) (H : Hp) (e : Exn) (cls : Value) (dd : Option Addr) : Prop :=
  ∃ C, bx.exC e.cls = some C ∧ cls = .ref C ∧ ∃ d fs, dd = some d ∧ H d = some (.xd fs) ∧ fs.map (·.1) = e.fs.map (·.1) ∧ RDs bx.K bx.sa H (fs.map (·.2)) (e.fs.map (·.2))
structure XPost (bx : Bx) (ow : List Addr) (H : Hp) (e : Exn) (cls : Value) (dd : Option Addr) (H' : Hp) (ls' : LS) : Prop where
  kept : Kept bx H H'
  lsr : LSR bx H' ls'
  ex : ExR bx (mn bx.O ow H') e cls dd

theorem Rel.after {bx : Bx} {ow : List Addr} {tmp : List Hp} {ρ : Env1} {σ : Sg} {H H' : Hp} {ls ls' : LS} (R : Rel bx ow tmp ρ σ H ls) (k : Kept bx H H') (l : LSR bx H' ls') : Rel bx ow tmp ρ σ H' ls' where
  toBas := R.toBas.after k l
  len := R.len
  sh := fun i d h => by
    obtain ⟨v, h1, h2⟩ := R.sh i d h
    exact ⟨v, h1, h2.mono (k.mn R.toBas)⟩
  own := fun i d h => by
    obtain ⟨p, h1, h2, h3⟩ := R.own i d h
    refine ⟨p, h1, h2, h3.after R.toBas k ?_⟩
    have h4 := (R.fr p h1).2.1
    cases e : bx.S p with
    | false => rfl
    | true => rw [R.sO p e] at h4; cases h4
  inj := R.inj
  tm := fun z m => (R.tm z m).trans (k.mn R.toBas)
theorem Kept.back {bx : Bx} {ow : List Addr} {H H' : Hp} {ls : LS} (k : Kept bx H H') (b : Bas bx ow H ls) {p : Addr} (h : H' p = none) (hS : bx.S p = false) : H p = none := by
  cases e : H p with
  | none => rfl
  | some o => rw [k p o e hS] at h; cases h
theorem EPost.from {bx : Bx} {ow : List Addr} {H H1 H' : Hp} {v : V} {fr : Fg} {d : D} {ls ls1 ls' : LS} (b : Bas bx ow H ls) (k : Kept bx H H1) (l : LSR bx H1 ls1) (h : EPost bx ow H1 v H' fr d ls') : EPost bx ow H v H' fr d ls' := by
  refine ⟨k.trans h.kept, h.lsr, ?_⟩
  have hv := h.val
  cases fr with
  | fr =>
    obtain ⟨p, h1, h2, h3⟩ := hv
    exact ⟨p, h1, k.back b h2 ((b.after k l).dom h2).2.2.1, h3⟩
  | sh => exact hv
  | bo => exact hv
theorem XPost.from {bx : Bx} {ow : List Addr} {H H1 H' : Hp} {e : Exn} {cls : Value} {dd : Option Addr} {ls' : LS} (k : Kept bx H H1) (h : XPost bx ow H1 e cls dd H' ls') : XPost bx ow H e cls dd H' ls' := ⟨k.trans h.kept, h.lsr, h.ex⟩

/-- a value as a plain one -/
theorem Top.rd {bx : Bx} {ow : List Addr} {H : Hp} {p : Addr} {d : D} (t : Top bx (p :: ow) H p d) (hO : bx.O p = false) (hw : p ∉ ow) : RD bx.K bx.sa (mn bx.O ow H) (.ref p) d := by
  have sub : Same (mn bx.O (p :: ow) H) (mn bx.O ow H) := mn_sub fun q m => List.mem_cons_of_mem _ m
  cases d with
  | lst ds => obtain ⟨vs, h1, h2⟩ := t; exact .lst (mn_of h1 hO hw) (h2.mono sub)
  | dk kvs => obtain ⟨vs, h1, h2⟩ := t; exact .dk (mn_of h1 hO hw) (h2.mono sub)
  | _ => exact t.elim
theorem EPost.rd {bx : Bx} {ow : List Addr} {H H' : Hp} {v : V} {fr : Fg} {d : D} {ls ls' : LS} (b : Bas bx ow H ls) (h : EPost bx ow H v H' fr d ls') (nb : fr ≠ .bo) : RD bx.K bx.sa (mn bx.O ow H') v d := by
  have hv := h.val
  cases fr with
  | fr =>
    obtain ⟨p, rfl, h2, h3⟩ := hv
    obtain ⟨q1, q2, _, _⟩ := b.dom h2
    exact h3.rd q1 q2
  | sh => exact hv
  | bo => exact absurd rfl nb
theorem EPost.rb {bx : Bx} {ow : List Addr} {H H' : Hp} {v : V} {fr : Fg} {d : D} {ls ls' : LS} (b : Bas bx ow H ls) (h : EPost bx ow H v H' fr d ls') : RB bx ow H' v d := by
  by_cases e : fr = .bo
  · subst e; exact h.val
  · exact .sh (h.rd b e)

/-! ### readings -/
def RunE (bx : Bx) (W : WX) (ow : List Addr) (σ : Sg) (H : Hp) (r : Res (Fg × D)) (Q : VK) : Prop := match r with
  | .bad => False
  | .ok z ls' => ∀ v H', EPost bx ow H v H' z.1 z.2 ls' → Q v H'
  | .ex e ls' => ∀ cls dd H', XPost bx ow H e cls dd H' ls' → W cls dd σ H'
def tB (bx : Bx) (W : WX) (f : Env1 → M (Fg × D)) : TE := fun σ H Q => ∃ ow tmp ρ ls, Rel bx ow tmp ρ σ H ls ∧ RunE bx W ow σ H (f ρ ls) Q
/-- lists of arguments -/
def RunA (bx : Bx) (W : WX) (ow : List Addr) (σ : Sg) (H : Hp) (r : Res (List D)) (Q : List V → Hp → Prop) : Prop := match r with
  | .bad => False
  | .ok ds ls' => ∀ vs H', Kept bx H H' → LSR bx H' ls' → RDs bx.K bx.sa (mn bx.O ow H') vs ds → Q vs H'
  | .ex e ls' => ∀ cls dd H', XPost bx ow H e cls dd H' ls' → W cls dd σ H'
/-- .. that are read -/
inductive RBs (bx : Bx) (ow : List Addr) (H : Hp) : List V → List D → Prop
  | nil : RBs bx ow H [] []
  | cons {v : V} {vs : List V} {d : D} {ds : List D} : RB bx ow H v d → RBs bx ow H vs ds → RBs bx ow H (v :: vs) (d :: ds)
theorem RBs.after {bx : Bx} {ow : List Addr} {H H' : Hp} {ls : LS} (b : Bas bx ow H ls) (k : Kept bx H H') : ∀ {v : List V} {d : List D}, RBs bx ow H v d → RBs bx ow H' v d
  | _, _, .nil => .nil
  | _, _, .cons a r => .cons (a.after b k) (RBs.after b k r)
def RunR (bx : Bx) (W : WX) (ow : List Addr) (σ : Sg) (H : Hp) (r : Res (List D)) (Q : List V → Hp → Prop) : Prop := match r with
  | .bad => False
  | .ok ds ls' => ∀ vs H', Kept bx H H' → LSR bx H' ls' → RBs bx ow H' vs ds → Q vs H'
  | .ex e ls' => ∀ cls dd H', XPost bx ow H e cls dd H' ls' → W cls dd σ H'
def tR (bx : Bx) (W : WX) (f : Env1 → M (List D)) : TA := fun σ H Q => ∃ ow tmp ρ ls, Rel bx ow tmp ρ σ H ls ∧ RunR bx W ow σ H (f ρ ls) Q
def tA (bx : Bx) (W : WX) (f : Env1 → M (List D)) : TA := fun σ H Q => ∃ ow tmp ρ ls, Rel bx ow tmp ρ σ H ls ∧ RunA bx W ow σ H (f ρ ls) Q
/-- tests -/
def RunT (bx : Bx) (W : WX) (ow : List Addr) (σ : Sg) (H : Hp) (r : Res Bool) (Q : Bool → Hp → Prop) : Prop := match r with
  | .bad => False
  | .ok b ls' => ∀ H', Kept bx H H' → LSR bx H' ls' → Q b H'
  | .ex e ls' => ∀ cls dd H', XPost bx ow H e cls dd H' ls' → W cls dd σ H'
def tT (bx : Bx) (W : WX) (f : Env1 → M Bool) : TT := fun σ H Q => ∃ ow tmp ρ ls, Rel bx ow tmp ρ σ H ls ∧ RunT bx W ow σ H (f ρ ls) Q

theorem RunE.shift {bx : Bx} {W : WX} {ow : List Addr} {σ : Sg} {H H1 : Hp} {r : Res (Fg × D)} {Q : VK} {ls ls1 : LS} (h : RunE bx W ow σ H r Q) (b : Bas bx ow H ls) (k : Kept bx H H1) (l : LSR bx H1 ls1) : RunE bx W ow σ H1 r Q := by
  cases r with
  | bad => exact h
  | ok z ls' => exact fun v H' P => h v H' (P.from b k l)
  | ex e ls' => exact fun c d H' P => h c d H' (P.from k)
theorem RunA.shift {bx : Bx} {W : WX} {ow : List Addr} {σ : Sg} {H H1 : Hp} {r : Res (List D)} {Q : List V → Hp → Prop} (h : RunA bx W ow σ H r Q) (k : Kept bx H H1) : RunA bx W ow σ H1 r Q := by
  cases r with
  | bad => exact h
  | ok z ls' => exact fun v H' P => h v H' (k.trans P)
  | ex e ls' => exact fun c d H' P => h c d H' (P.from k)
theorem RunT.shift {bx : Bx} {W : WX} {ow : List Addr} {σ : Sg} {H H1 : Hp} {r : Res Bool} {Q : Bool → Hp → Prop} (h : RunT bx W ow σ H r Q) (k : Kept bx H H1) : RunT bx W ow σ H1 r Q := by
  cases r with
  | bad => exact h
  | ok z ls' => exact fun H' P => h H' (k.trans P)
  | ex e ls' => exact fun c d H' P => h c d H' (P.from k)

theorem RunR.shift {bx : Bx} {W : WX} {ow : List Addr} {σ : Sg} {H H1 : Hp} {r : Res (List D)} {Q : List V → Hp → Prop} (h : RunR bx W ow σ H r Q) (k : Kept bx H H1) : RunR bx W ow σ H1 r Q := by
  cases r with
  | bad => exact h
  | ok z ls' => exact fun v H' P => h v H' (k.trans P)
  | ex e ls' => exact fun c d H' P => h c d H' (P.from k)
theorem RunR.first {bx : Bx} {W : WX} {ow : List Addr} {tmp : List Hp} {ρ : Env1} {σ : Sg} {H : Hp} {ls : LS} {m : M (Fg × D)} {k : Fg × D → M (List D)} {Q : List V → Hp → Prop} {Q' : VK} (h : RunR bx W ow σ H (M.bind m k ls) Q) (R : Rel bx ow tmp ρ σ H ls)
    (hk : ∀ v H1 z ls1, EPost bx ow H v H1 z.1 z.2 ls1 → Rel bx ow tmp ρ σ H1 ls1 → RunR bx W ow σ H1 (k z ls1) Q → Q' v H1) : RunE bx W ow σ H (m ls) Q' := by
  unfold M.bind at h
  cases e : m ls with
  | bad => rw [e] at h; exact h
  | ok z ls1 =>
    rw [e] at h
    exact fun v H1 P => hk v H1 z ls1 P (R.after P.kept P.lsr) (h.shift P.kept)
  | ex x ls1 => rw [e] at h; exact h
theorem RunR.next {bx : Bx} {W : WX} {ow : List Addr} {tmp : List Hp} {ρ : Env1} {σ : Sg} {H : Hp} {ls : LS} {m : M (List D)} {k : List D → M (List D)} {Q : List V → Hp → Prop} {Q' : List V → Hp → Prop} (h : RunR bx W ow σ H (M.bind m k ls) Q) (R : Rel bx ow tmp ρ σ H ls)
    (hk : ∀ vs H1 ds ls1, Kept bx H H1 → RBs bx ow H1 vs ds → Rel bx ow tmp ρ σ H1 ls1 → RunR bx W ow σ H1 (k ds ls1) Q → Q' vs H1) : RunR bx W ow σ H (m ls) Q' := by
  unfold M.bind at h
  cases e : m ls with
  | bad => rw [e] at h; exact h
  | ok z ls1 =>
    rw [e] at h
    exact fun v H1 P l r => hk v H1 z ls1 P r (R.after P l) (h.shift P)
  | ex x ls1 => rw [e] at h; exact h
theorem RunE.argsR {bx : Bx} {W : WX} {ow : List Addr} {tmp : List Hp} {ρ : Env1} {σ : Sg} {H : Hp} {ls : LS} {m : M (List D)} {k : List D → M (Fg × D)} {Q : VK} {Q' : List V → Hp → Prop} (h : RunE bx W ow σ H (M.bind m k ls) Q) (R : Rel bx ow tmp ρ σ H ls)
    (hk : ∀ vs H1 ds ls1, RBs bx ow H1 vs ds → Rel bx ow tmp ρ σ H1 ls1 → RunE bx W ow σ H1 (k ds ls1) Q → Q' vs H1) : RunR bx W ow σ H (m ls) Q' := by
  unfold M.bind at h
  cases e : m ls with
  | bad => rw [e] at h; exact h
  | ok z ls1 =>
    rw [e] at h
    exact fun v H1 P l r => hk v H1 z ls1 r (R.after P l) (h.shift R.toBas P l)
  | ex x ls1 => rw [e] at h; exact h
theorem RunA.next {bx : Bx} {W : WX} {ow : List Addr} {tmp : List Hp} {ρ : Env1} {σ : Sg} {H : Hp} {ls : LS} {m : M (List D)} {k : List D → M (List D)} {Q : List V → Hp → Prop} {Q' : List V → Hp → Prop} (h : RunA bx W ow σ H (M.bind m k ls) Q) (R : Rel bx ow tmp ρ σ H ls)
    (hk : ∀ vs H1 ds ls1, Kept bx H H1 → RDs bx.K bx.sa (mn bx.O ow H1) vs ds → Rel bx ow tmp ρ σ H1 ls1 → RunA bx W ow σ H1 (k ds ls1) Q → Q' vs H1) : RunA bx W ow σ H (m ls) Q' := by
  unfold M.bind at h
  cases e : m ls with
  | bad => rw [e] at h; exact h
  | ok z ls1 =>
    rw [e] at h
    exact fun v H1 P l r => hk v H1 z ls1 P r (R.after P l) (h.shift P)
  | ex x ls1 => rw [e] at h; exact h

/-- first f, then what follows -/
theorem RunE.first {bx : Bx} {W : WX} {ow : List Addr} {tmp : List Hp} {ρ : Env1} {σ : Sg} {H : Hp} {ls : LS} {m : M (Fg × D)} {k : Fg × D → M (Fg × D)} {Q Q' : VK} (h : RunE bx W ow σ H (M.bind m k ls) Q) (R : Rel bx ow tmp ρ σ H ls)
    (hk : ∀ v H1 z ls1, EPost bx ow H v H1 z.1 z.2 ls1 → Rel bx ow tmp ρ σ H1 ls1 → RunE bx W ow σ H1 (k z ls1) Q → Q' v H1) : RunE bx W ow σ H (m ls) Q' := by
  unfold M.bind at h
  cases e : m ls with
  | bad => rw [e] at h; exact h
  | ok z ls1 =>
    rw [e] at h
    exact fun v H1 P => hk v H1 z ls1 P (R.after P.kept P.lsr) (h.shift R.toBas P.kept P.lsr)
  | ex x ls1 => rw [e] at h; exact h
theorem RunA.first {bx : Bx} {W : WX} {ow : List Addr} {tmp : List Hp} {ρ : Env1} {σ : Sg} {H : Hp} {ls : LS} {m : M (Fg × D)} {k : Fg × D → M (List D)} {Q : List V → Hp → Prop} {Q' : VK} (h : RunA bx W ow σ H (M.bind m k ls) Q) (R : Rel bx ow tmp ρ σ H ls)
    (hk : ∀ v H1 z ls1, EPost bx ow H v H1 z.1 z.2 ls1 → Rel bx ow tmp ρ σ H1 ls1 → RunA bx W ow σ H1 (k z ls1) Q → Q' v H1) : RunE bx W ow σ H (m ls) Q' := by
  unfold M.bind at h
  cases e : m ls with
  | bad => rw [e] at h; exact h
  | ok z ls1 =>
    rw [e] at h
    exact fun v H1 P => hk v H1 z ls1 P (R.after P.kept P.lsr) (h.shift P.kept)
  | ex x ls1 => rw [e] at h; exact h
theorem RunE.args {bx : Bx} {W : WX} {ow : List Addr} {tmp : List Hp} {ρ : Env1} {σ : Sg} {H : Hp} {ls : LS} {m : M (List D)} {k : List D → M (Fg × D)} {Q : VK} {Q' : List V → Hp → Prop} (h : RunE bx W ow σ H (M.bind m k ls) Q) (R : Rel bx ow tmp ρ σ H ls)
    (hk : ∀ vs H1 ds ls1, RDs bx.K bx.sa (mn bx.O ow H1) vs ds → Rel bx ow tmp ρ σ H1 ls1 → RunE bx W ow σ H1 (k ds ls1) Q → Q' vs H1) : RunA bx W ow σ H (m ls) Q' := by
  unfold M.bind at h
  cases e : m ls with
  | bad => rw [e] at h; exact h
  | ok z ls1 =>
    rw [e] at h
    exact fun v H1 P l r => hk v H1 z ls1 r (R.after P l) (h.shift R.toBas P l)
  | ex x ls1 => rw [e] at h; exact h
theorem RunE.test {bx : Bx} {W : WX} {ow : List Addr} {tmp : List Hp} {ρ : Env1} {σ : Sg} {H : Hp} {ls : LS} {m : M Bool} {k : Bool → M (Fg × D)} {Q : VK} {Q' : Bool → Hp → Prop} (h : RunE bx W ow σ H (M.bind m k ls) Q) (R : Rel bx ow tmp ρ σ H ls)
    (hk : ∀ b H1 ls1, Rel bx ow tmp ρ σ H1 ls1 → RunE bx W ow σ H1 (k b ls1) Q → Q' b H1) : RunT bx W ow σ H (m ls) Q' := by
  unfold M.bind at h
  cases e : m ls with
  | bad => rw [e] at h; exact h
  | ok z ls1 =>
    rw [e] at h
    exact fun H1 P l => hk z H1 ls1 (R.after P l) (h.shift R.toBas P l)
  | ex x ls1 => rw [e] at h; exact h
theorem RunT.test {bx : Bx} {W : WX} {ow : List Addr} {tmp : List Hp} {ρ : Env1} {σ : Sg} {H : Hp} {ls : LS} {m : M Bool} {k : Bool → M Bool} {Q : Bool → Hp → Prop} {Q' : Bool → Hp → Prop} (h : RunT bx W ow σ H (M.bind m k ls) Q) (R : Rel bx ow tmp ρ σ H ls)
    (hk : ∀ b H1 ls1, Rel bx ow tmp ρ σ H1 ls1 → RunT bx W ow σ H1 (k b ls1) Q → Q' b H1) : RunT bx W ow σ H (m ls) Q' := by
  unfold M.bind at h
  cases e : m ls with
  | bad => rw [e] at h; exact h
  | ok z ls1 =>
    rw [e] at h
    exact fun H1 P l => hk z H1 ls1 (R.after P l) (h.shift P)
  | ex x ls1 => rw [e] at h; exact h
theorem RunT.first {bx : Bx} {W : WX} {ow : List Addr} {tmp : List Hp} {ρ : Env1} {σ : Sg} {H : Hp} {ls : LS} {m : M (Fg × D)} {k : Fg × D → M Bool} {Q : Bool → Hp → Prop} {Q' : VK} (h : RunT bx W ow σ H (M.bind m k ls) Q) (R : Rel bx ow tmp ρ σ H ls)
    (hk : ∀ v H1 z ls1, EPost bx ow H v H1 z.1 z.2 ls1 → Rel bx ow tmp ρ σ H1 ls1 → RunT bx W ow σ H1 (k z ls1) Q → Q' v H1) : RunE bx W ow σ H (m ls) Q' := by
  unfold M.bind at h
  cases e : m ls with
  | bad => rw [e] at h; exact h
  | ok z ls1 =>
    rw [e] at h
    exact fun v H1 P => hk v H1 z ls1 P (R.after P.kept P.lsr) (h.shift P.kept)
  | ex x ls1 => rw [e] at h; exact h

/-- a weaker reading -/
theorem PE.imp {X : Cx} {e : Expr} {t t' : TE} (h : PE X e t) (i : ∀ σ H Q, t' σ H Q → t σ H Q) : PE X e t' := ⟨fun pins s σ H Q I q => h.run pins s σ H Q I (i σ H Q q)⟩
theorem PT.imp {X : Cx} {e : Expr} {t t' : TT} (h : PT X e t) (i : ∀ σ H Q, t' σ H Q → t σ H Q) : PT X e t' := ⟨fun pins s σ H Q I q => h.run pins s σ H Q I (i σ H Q q)⟩
theorem PW.imp {X : Cx} {e : Expr} {t t' : TT} (h : PW X e t) (i : ∀ σ H Q, t' σ H Q → t σ H Q) : PW X e t' := ⟨fun wh pins s σ H Q I q => h.run wh pins s σ H Q I (i σ H Q q)⟩
theorem PA.imp {X : Cx} {e : List Expr} {t t' : TA} (h : PA X e t) (i : ∀ σ H Q, t' σ H Q → t σ H Q) : PA X e t' := ⟨fun p pins s σ H Q I q => h.run p pins s σ H Q I (i σ H Q q)⟩
theorem PS.imp {X : Cx} {e : Stmt} {t t' : TS} (h : PS X e t) (i : ∀ D σ H, t' D σ H → t D σ H) : PS X e t' := ⟨fun pins s σ H D I q => h.run pins s σ H D I (i D σ H q)⟩
theorem PSs.imp {X : Cx} {e : List Stmt} {t t' : TS} (h : PSs X e t) (i : ∀ D σ H, t' D σ H → t D σ H) : PSs X e t' := ⟨fun pins s σ H D I q => h.run pins s σ H D I (i D σ H q)⟩
end BL
end

section
set_option Elab.async false
set_option linter.all false
set_option maxRecDepth 100000
set_option maxHeartbeats 4000000
namespace BL
open PySem PySem.Spec PyProof.Rows L2

/-! ### how results come -/
theorem EPost.same {bx : Bx} {ow : List Addr} {H : Hp} {ls : LS} (b : Bas bx ow H ls) {v : V} {d : D} (r : RD bx.K bx.sa (mn bx.O ow H) v d) : EPost bx ow H v H .sh d ls :=
  ⟨Kept.refl, b.lsr, r⟩
theorem Kept.new {bx : Bx} {H : Hp} {p : Addr} {o : HO} (h : H p = none) : Kept bx H (upd H p o) := fun a u e _ => by
  rw [upd_ne (ne_of_none e h)]; exact e
theorem LSR.new {bx : Bx} {H : Hp} {ls : LS} {p : Addr} {o : HO} (l : LSR bx H ls) (h : H p = none) : LSR bx (upd H p o) ls := by
  unfold LSR at l ⊢
  split
  · rename_i e; rw [e] at l; exact l
  · rename_i ca la e
    rw [e] at l
    obtain ⟨a0, a1, a2, a3, a4, a5, a6, a7, a8, a9, a10⟩ := l
    refine ⟨a0, a1, a2, a3, a4, a5, a6, a7, ?_, ?_, ?_⟩
    · rw [upd_ne (ne_of_none a8 h)]; exact a8
    · rw [upd_ne (ne_of_none a9 h)]; exact a9
    · rw [upd_ne (ne_of_none a10 h)]; exact a10
theorem mn_new {O : Addr → Bool} {ow : List Addr} {H : Hp} {p : Addr} {o : HO} (h : H p = none) : Same (mn O ow H) (mn O (p :: ow) (upd H p o)) := fun a u e => by
  obtain ⟨h1, h2, h3⟩ := mn_some e
  have ne := ne_of_none h1 h
  refine mn_of ((upd_ne ne).trans h1) h2 fun z => ?_
  rcases List.mem_cons.mp z with z | z
  · exact ne z
  · exact h3 z
/-- a new tuple -/
theorem EPost.tup {bx : Bx} {ow : List Addr} {H : Hp} {ls : LS} (b : Bas bx ow H ls) {p : Addr} (hp : H p = none) {vs : List V} {ds : List D} (r : RDs bx.K bx.sa (mn bx.O ow H) vs ds) : EPost bx ow H (.ref p) (upd H p (.tup vs)) .sh (.tup ds) ls := by
  obtain ⟨h1, h2, _, _⟩ := b.dom hp
  refine ⟨Kept.new hp, b.lsr.new hp, ?_⟩
  show RD _ _ _ _ _
  refine .tup (.inl (.inl (mn_of upd_same h1 h2))) (r.mono ?_)
  exact (mn_new hp).trans (mn_sub fun q m => List.mem_cons_of_mem _ m)
/-- a new list -/
theorem EPost.lst {bx : Bx} {ow : List Addr} {H : Hp} {ls : LS} (b : Bas bx ow H ls) {p : Addr} (hp : H p = none) {vs : List V} {ds : List D} (r : RDs bx.K bx.sa (mn bx.O ow H) vs ds) : EPost bx ow H (.ref p) (upd H p (.lst vs)) .fr (.lst ds) ls := by
  refine ⟨Kept.new hp, b.lsr.new hp, ?_⟩
  exact ⟨p, rfl, hp, vs, upd_same, r.mono (mn_new hp)⟩
theorem EPost.dk {bx : Bx} {ow : List Addr} {H : Hp} {ls : LS} (b : Bas bx ow H ls) {p : Addr} (hp : H p = none) {vs : List (Key × V)} {ds : List (Key × D)} (r : RDk bx.K bx.sa (mn bx.O ow H) vs ds) : EPost bx ow H (.ref p) (upd H p (.dK vs)) .fr (.dk ds) ls := by
  refine ⟨Kept.new hp, b.lsr.new hp, ?_⟩
  exact ⟨p, rfl, hp, vs, upd_same, r.mono (mn_new hp)⟩

/-! ### names, constants -/
def eName (i : Nat) : Env1 → M (Fg × D) := fun ρ => match ρ[i]? with
  | some (some (false, d)) => M.pure (.sh, d)
  | some (some (true, d)) => M.pure (.bo, d)
  | _ => M.bad
def eC (d : D) : Env1 → M (Fg × D) := fun _ => M.pure (.sh, d)
section
variable {X : Cx} {bx : Bx} {W : WX}
theorem be_name (i : Nat) {x : Str} {pos : Pos} (hN : X.N[i]? = some x := by rfl) (hv : Vis X.env.scope x := by first | exact Or.inl rfl | exact Or.inr (Or.inl rfl) | exact Or.inr (Or.inr rfl))
    (hd : (x == ("__debug__" : Str)) = false := by decide) (hcd : (x == ("__classdict__" : Str)) = false := by decide) : PE X (.Name x pos) (tB bx W (eName i)) := by
  refine PE.imp (pe_var hN hv hd hcd) fun σ H Q h => ?_
  obtain ⟨ow, tmp, ρ, ls, R, h⟩ := h
  unfold eName at h
  cases e : ρ[i]? with
  | none => rw [e] at h; exact (show False from h).elim
  | some o =>
    rw [e] at h
    cases o with
    | none => exact (show False from h).elim
    | some z =>
      obtain ⟨z1, d⟩ := z
      cases z1 with
      | true =>
        obtain ⟨p, h1, h2, h3⟩ := R.own i d e
        exact ⟨.ref p, h2, h _ H ⟨Kept.refl, R.lsr, .own h1 h3⟩⟩
      | false =>
        obtain ⟨v, h1, h2⟩ := R.sh i d e
        exact ⟨v, h1, h v H (EPost.same R.toBas h2)⟩
theorem tB_C {v : V} {d : D} (r : ∀ H, RD bx.K bx.sa H v d) {σ : Sg} {H : Hp} {Q : VK} (h : tB bx W (eC d) σ H Q) : tC v σ H Q := by
  obtain ⟨ow, tmp, ρ, ls, R, h⟩ := h
  exact h v H (EPost.same R.toBas (r _))
theorem be_int {i : Int} {j : Nat} {pos : Pos} : PE X (.Constant (.int i) j pos) (tB bx W (eC (.int i))) := PE.imp pe_int fun _ _ _ h => tB_C (fun _ => .int i) h
theorem be_bl {i : Bool} {j : Nat} {pos : Pos} : PE X (.Constant (.bool i) j pos) (tB bx W (eC (.bl i))) := PE.imp pe_bl fun _ _ _ h => tB_C (fun _ => .bl i) h
theorem be_non {j : Nat} {pos : Pos} : PE X (.Constant .none j pos) (tB bx W (eC .non)) := PE.imp pe_non fun _ _ _ h => tB_C (fun _ => .non) h
theorem be_str {x : Str} {j : Nat} {pos : Pos} : PE X (.Constant (.str x) j pos) (tB bx W (eC (.str x))) := PE.imp pe_str fun _ _ _ h => tB_C (fun _ => .str x) h
/-- a module's constant that is an int -/
theorem be_globI {x : Str} {i : Int} {pos : Pos} (hg : Gl X x) (hm : ∃ t, X.mg x = some (.int i t)) (hd : (x == ("__debug__" : Str)) = false := by decide) : PE X (.Name x pos) (tB bx W (eC (.int i))) := by
  obtain ⟨t, hm⟩ := hm
  exact PE.imp (pe_glob (v := .int i) hg hm ⟨t, rfl⟩ hd) fun _ _ _ h => tB_C (fun _ => .int i) h
/-- a class, a def of the module -/
theorem be_globR {x : Str} {a : Addr} {pos : Pos} (hg : Gl X x) (hm : X.mg x = some (.ref a)) (hd : (x == ("__debug__" : Str)) = false := by decide) : PE X (.Name x pos) (tB bx W (eC (.op (.ref a)))) :=
  PE.imp (pe_glob (v := .ref a) hg hm rfl hd) fun _ _ _ h => tB_C (fun _ => .op _) h
/-- a built-in type as a value -/
theorem be_type {x : Str} {n : String} {pos : Pos} (hg : Gl X x) (hm : X.mg x = none) (hv : bootBuiltins x = some (.type n)) (hn : x ≠ "__name__" := by decide) (hd : (x == ("__debug__" : Str)) = false := by decide) : PE X (.Name x pos) (tB bx W (eC (.op (.ty n)))) :=
  PE.imp (pe_bltn (v := .ty n) hg hm hv rfl hn hd) fun _ _ _ h => tB_C (fun _ => .op _) h
end

/-! ### operators -/
def eOp (o : D → D → Option (Fg × D)) (f g : Env1 → M (Fg × D)) : Env1 → M (Fg × D) := fun ρ => M.bind (f ρ) fun x => M.bind (g ρ) fun y => M.opt (o x.2 y.2)
def OpS (bx : Bx) (r : R2) (o : D → D → Option (Fg × D)) : Prop := ∀ (ow : List Addr) (H : Hp) (ls : LS) (x y : V) (dx dy : D) (z : Fg × D) (Q : VK), Bas bx ow H ls → RB bx ow H x dx → RB bx ow H y dy →
  o dx dy = some z → (∀ v H', EPost bx ow H v H' z.1 z.2 ls → Q v H') → r x y H Q
theorem OpS.or {bx : Bx} {r r' : R2} {o o' : D → D → Option (Fg × D)} (h : OpS bx r o) (h' : OpS bx r' o') : OpS bx (fun x y H Q => r x y H Q ∨ r' x y H Q) (fun a b => (o a b).or (o' a b)) := by
  intro ow H ls x y dx dy z Q b rx ry e q
  have e : (o dx dy).or (o' dx dy) = some z := e
  cases e1 : o dx dy with
  | some z1 =>
    rw [e1] at e
    cases e
    exact .inl (h ow H ls x y dx dy z Q b rx ry e1 q)
  | none =>
    rw [e1] at e
    exact .inr (h' ow H ls x y dx dy z Q b rx ry e q)
theorem OpR.or {X : Cx} {f : Value → Value → Sem Value} {r r' : R2} (h : OpR X f r) (h' : OpR X f r') : OpR X f (fun x y H Q => r x y H Q ∨ r' x y H Q) := by
  intro pins s σ H x y v u Q I rx ry q
  rcases q with q | q
  · exact h pins s σ H x y v u Q I rx ry q
  · exact h' pins s σ H x y v u Q I rx ry q
theorem opt_ok {z : Option (Fg × D)} {ls : LS} {bx : Bx} {W : WX} {ow : List Addr} {σ : Sg} {H : Hp} {Q : VK} (h : RunE bx W ow σ H (M.opt z ls) Q) : ∃ y, z = some y ∧ ∀ v H', EPost bx ow H v H' y.1 y.2 ls → Q v H' := by
  cases z with
  | none => exact (show False from h).elim
  | some y => exact ⟨y, rfl, h⟩
section
variable {X : Cx} {bx : Bx} {W : WX} {a b c : Expr} {f g k : Env1 → M (Fg × D)} {pos : Pos}
theorem tB_op {r : R2} {o : D → D → Option (Fg × D)} (hs : OpS bx r o) {σ : Sg} {H : Hp} {Q : VK} (h : tB bx W (eOp o f g) σ H Q) : tOp r (tB bx W f) (tB bx W g) σ H Q := by
  obtain ⟨ow, tmp, ρ, ls, R, h⟩ := h
  refine ⟨ow, tmp, ρ, ls, R, RunE.first h R fun x H1 zx ls1 P1 R1 h1 => ?_⟩
  refine ⟨ow, tmp, ρ, ls1, R1, RunE.first h1 R1 fun y H2 zy ls2 P2 R2 h2 => ?_⟩
  obtain ⟨z, e, q⟩ := opt_ok h2
  exact hs ow H2 ls2 x y zx.2 zy.2 z Q R2.toBas ((P1.rb R.toBas).after R1.toBas P2.kept) (P2.rb R1.toBas) e q
theorem be_op {op : Operator} {r : R2} {o : D → D → Option (Fg × D)} (ho : OpR X (binaryOp op) r) (hs : OpS bx r o) (ha : PE X a (tB bx W f)) (hb : PE X b (tB bx W g)) : PE X (.BinOp a op b pos) (tB bx W (eOp o f g)) :=
  PE.imp (pe_op ho ha hb) fun _ _ _ h => tB_op hs h
theorem be_cmp {op : CmpOp} {r : R2} {o : D → D → Option (Fg × D)} (ho : OpR X (compareOp op) r) (hs : OpS bx r o) (ha : PE X a (tB bx W f)) (hb : PE X b (tB bx W g)) (hm : behindInMarks op b = false) : PE X (.Compare a [op] [b] pos) (tB bx W (eOp o f g)) :=
  PE.imp (pe_cmpR ho ha hb hm) fun _ _ _ h => tB_op hs h
/-- a value as a test -/
def tOf (f : Env1 → M (Fg × D)) : Env1 → M Bool := fun ρ => M.bind (f ρ) fun x => match x.2 with
  | .bl b => M.pure b
  | _ => M.bad
theorem tB_test {σ : Sg} {H : Hp} {Q : Bool → Hp → Prop} (h : tT bx W (tOf f) σ H Q) : tTest (tB bx W f) σ H Q := by
  obtain ⟨ow, tmp, ρ, ls, R, h⟩ := h
  refine ⟨ow, tmp, ρ, ls, R, RunT.first h R fun x H1 z ls1 P1 R1 h1 => ?_⟩
  have r := P1.rb R.toBas
  obtain ⟨z1, z2⟩ := z
  cases z2 with
  | bl b =>
    obtain rfl := r.bl
    exact ⟨b, rfl, h1 H1 Kept.refl P1.lsr⟩
  | _ => exact (show False from h1).elim
theorem bt_cmp {op : CmpOp} {r : R2} {o : D → D → Option (Fg × D)} (ho : OpR X (compareOp op) r) (hs : OpS bx r o) (ha : PE X a (tB bx W f)) (hb : PE X b (tB bx W g)) (hm : behindInMarks op b = false) : PT X (.Compare a [op] [b] pos) (tT bx W (tOf (eOp o f g))) := by
  refine PT.imp (pt_cmpR ho ha hb hm) fun σ H Q h => ?_
  have h' := tB_test h
  obtain ⟨ow, tmp, ρ, ls, R, h⟩ := h'
  exact tB_op hs ⟨ow, tmp, ρ, ls, R, h⟩
/-- any value as a test, a bool -/
theorem bt_val (ha : PE X a (tB bx W f)) (he : ∀ whole, isTrue a X.env whole = (do let v ← whole; standAt a.pos; holding [v] (truthy v)) := by intro _; rfl) : PT X a (tT bx W (tOf f)) :=
  PT.imp (pt_val ha he) fun _ _ _ h => tB_test h
/-- chains of two -/
def eChain (o o' : D → D → Option (Fg × D)) (f g k : Env1 → M (Fg × D)) : Env1 → M (Fg × D) := fun ρ => M.bind (f ρ) fun x => M.bind (g ρ) fun y => M.bind (M.opt (o x.2 y.2)) fun z => match z.2 with
  | .bl true => M.bind (k ρ) fun w => M.opt (o' y.2 w.2)
  | .bl false => M.pure (.sh, .bl false)
  | _ => M.bad
theorem tB_chain {r r' : R2} {o o' : D → D → Option (Fg × D)} (hs : OpS bx r o) (hs' : OpS bx r' o') {σ : Sg} {H : Hp} {Q : VK} (h : tB bx W (eChain o o' f g k) σ H Q) : tChain r r' (tB bx W f) (tB bx W g) (tB bx W k) σ H Q := by
  obtain ⟨ow, tmp, ρ, ls, R, h⟩ := h
  refine ⟨ow, tmp, ρ, ls, R, RunE.first h R fun x H1 zx ls1 P1 R1 h1 => ?_⟩
  refine ⟨ow, tmp, ρ, ls1, R1, RunE.first h1 R1 fun y H2 zy ls2 P2 R2 h2 => ?_⟩
  unfold M.bind M.opt at h2
  cases e : o zx.2 zy.2 with
  | none => rw [e] at h2; exact (show False from h2).elim
  | some z =>
    rw [e] at h2
    have h2' : RunE bx W ow σ H2 ((match z.2 with
      | .bl true => M.bind (k ρ) fun w => M.opt (o' zy.2 w.2)
      | .bl false => M.pure (.sh, .bl false)
      | _ => M.bad : M (Fg × D)) ls2) Q := h2
    refine hs ow H2 ls2 x y zx.2 zy.2 z _ R2.toBas ((P1.rb R.toBas).after R1.toBas P2.kept) (P2.rb R1.toBas) e fun v H3 P3 => ?_
    have r3 := P3.rb R2.toBas
    have R3 := R2.after P3.kept P3.lsr
    have h3 := h2'.shift R2.toBas P3.kept P3.lsr
    obtain ⟨z1, z2⟩ := z
    cases z2 with
    | bl b =>
      obtain rfl := r3.bl
      cases b with
      | false => exact ⟨false, rfl, by rw [if_neg (by decide)]; exact h3 _ _ (EPost.same R3.toBas (.bl false))⟩
      | true =>
        refine ⟨true, rfl, ?_⟩
        rw [if_pos rfl]
        refine ⟨ow, tmp, ρ, ls2, R3, RunE.first h3 R3 fun w H4 zw ls4 P4 R4 h4 => ?_⟩
        obtain ⟨z', e', q⟩ := opt_ok h4
        exact hs' ow H4 ls4 y w zy.2 zw.2 z' Q R4.toBas (((P2.rb R1.toBas).after R2.toBas P3.kept).after R3.toBas P4.kept) (P4.rb R3.toBas) e' q
    | _ => exact (show False from h3).elim
theorem be_chain {op op' : CmpOp} {r r' : R2} {o o' : D → D → Option (Fg × D)} (ho : OpR X (compareOp op) r) (ho' : OpR X (compareOp op') r') (hs : OpS bx r o) (hs' : OpS bx r' o') (ha : PE X a (tB bx W f)) (hb : PE X b (tB bx W g)) (hc : PE X c (tB bx W k))
    (hm : lastMarks [op, op'] [b, c] = false := by with_unfolding_all rfl) : PE X (.Compare a [op, op'] [b, c] pos) (tB bx W (eChain o o' f g k)) :=
  PE.imp (pe_chain ho ho' ha hb hc hm) fun _ _ _ h => tB_chain hs hs' h
theorem bt_chain {op op' : CmpOp} {r r' : R2} {o o' : D → D → Option (Fg × D)} (ho : OpR X (compareOp op) r) (ho' : OpR X (compareOp op') r') (hs : OpS bx r o) (hs' : OpS bx r' o') (ha : PE X a (tB bx W f)) (hb : PE X b (tB bx W g)) (hc : PE X c (tB bx W k))
    (hm : lastMarks [op, op'] [b, c] = false := by with_unfolding_all rfl) : PT X (.Compare a [op, op'] [b, c] pos) (tT bx W (tOf (eChain o o' f g k))) :=
  PT.imp (pt_chain ho ho' ha hb hc hm) fun σ H Q h => by
    obtain ⟨ow, tmp, ρ, ls, R, h⟩ := tB_test h
    exact tB_chain hs hs' ⟨ow, tmp, ρ, ls, R, h⟩
end
end BL
end

section
set_option Elab.async false
set_option linter.all false
set_option maxRecDepth 100000
set_option maxHeartbeats 4000000
namespace BL
open PySem PySem.Spec PyProof.Rows L2

/-! ### ints -/
def addD : D → D → Option (Fg × D)
  | .int a, .int b => some (.sh, .int (a + b))
  | .str a, .str b => if a.length + b.length ≤ sizeLine then some (.sh, .str (a ++ b)) else none
  | .lst a, .lst b => if a.length + b.length ≤ sizeLine then some (.fr, .lst (a ++ b)) else none
  | .tup a, .tup b => if a.length + b.length ≤ sizeLine then some (.sh, .tup (a ++ b)) else none
  | _, _ => none
def subD : D → D → Option (Fg × D)
  | .int a, .int b => some (.sh, .int (a - b))
  | _, _ => none
def mulD : D → D → Option (Fg × D)
  | .int a, .int b => if a.natAbs.log2 + b.natAbs.log2 < 1000000 then some (.sh, .int (a * b)) else none
  | .tup a, .int b => if a ≠ [] ∧ 2 ≤ b ∧ b ≤ 1000 ∧ a.length ≤ 1000 then some (.sh, .tup (List.replicate b.toNat a).flatten) else none
  | .lst a, .int b => if b < 2 ^ 62 ∧ -(2 ^ 62) < b ∧ a.length * b.toNat ≤ sizeLine then some (.fr, .lst (List.replicate b.toNat a).flatten) else none
  | _, _ => none
def fdivD : D → D → Option (Fg × D)
  | .int a, .int b => if b ≠ 0 ∧ b.natAbs.log2 < 9000 then some (.sh, .int (a.fdiv b)) else none
  | _, _ => none
def modD : D → D → Option (Fg × D)
  | .int a, .int b => if b ≠ 0 then some (.sh, .int (a.fmod b)) else none
  | _, _ => none
def powD : D → D → Option (Fg × D)
  | .int a, .int b => if 0 ≤ b ∧ b ≤ 1000000 ∧ a.natAbs < 2 ^ 64 then some (.sh, .int (a ^ b.toNat)) else none
  | _, _ => none
def shlD : D → D → Option (Fg × D)
  | .int a, .int b => if 0 ≤ b ∧ b ≤ 1000000 ∧ a.natAbs < 2 ^ 64 then some (.sh, .int (a * 2 ^ b.toNat)) else none
  | _, _ => none

theorem RDs.nil_iff {K : PySem.W.Frag} {sa : Addr} {H : Hp} {vs : List V} {ds : List D} (r : RDs K sa H vs ds) : vs = [] ↔ ds = [] := by
  cases r <;> simp
theorem RDs.rep {K : PySem.W.Frag} {sa : Addr} {H : Hp} {vs : List V} {ds : List D} (r : RDs K sa H vs ds) : ∀ n : Nat, RDs K sa H (List.replicate n vs).flatten (List.replicate n ds).flatten
  | 0 => .nil
  | n + 1 => by
    rw [List.replicate_succ, List.replicate_succ, List.flatten_cons, List.flatten_cons]
    exact r.append (r.rep n)

def rAddS : R2 := fun x y H Q => ∃ i j, x = .str i ∧ y = .str j ∧ i.length + j.length ≤ sizeLine ∧ Q (.str (i ++ j)) H
def rAddB (K : PySem.W.Frag) : R2 := fun x y H Q => (rI0 (fun i j => .int (i + j)) x y H Q) ∨ (rAddS x y H Q ∨ (rCat x y H Q ∨ rCatA K x y H Q))
theorem opr_add {X : Cx} : OpR X (binaryOp .Add) (rAddB X.K) := op_add.or (op_add_str.or (op_cat.or op_catA))
theorem ops_add {bx : Bx} : OpS bx (rAddB bx.K) addD := by
  intro ow H ls x y dx dy z Q b rx ry e q
  cases dx <;> cases dy <;> simp only [addD] at e <;> try (cases e; done)
  · rename_i i j
    cases e
    obtain rfl := rx.int
    obtain rfl := ry.int
    exact .inl ⟨i, j, rfl, rfl, q _ _ (EPost.same b (.int _))⟩
  · rename_i i j
    obtain rfl := rx.str
    obtain rfl := ry.str
    split at e
    · rename_i hz
      cases e
      exact .inr (.inl ⟨i, j, rfl, rfl, hz, q _ _ (EPost.same b (.str _))⟩)
    · cases e
  · rename_i i j
    obtain ⟨_, a1, vs1, rfl, h1, r1⟩ := rx.tup
    obtain ⟨_, a2, vs2, rfl, h2, r2⟩ := ry.tup
    split at e
    · rename_i hz
      cases e
      refine .inr (.inr (.inr ⟨a1, a2, vs1, vs2, rfl, rfl, h1, h2, by rw [r1.length, r2.length]; exact hz, fun e1 => ?_, fun e1 e2 => ?_, fun e1 e2 p hp => ?_⟩))
      · have := r1.nil_iff.mp e1
        subst this
        exact q _ _ (EPost.same b (by simpa using ry.tup.1))
      · have := r2.nil_iff.mp e2
        subst this
        exact q _ _ (EPost.same b (by simpa using rx.tup.1))
      · exact q _ _ (EPost.tup b hp (r1.append r2))
    · cases e
  · rename_i i j
    obtain ⟨a1, vs1, rfl, h1, r1⟩ := rx.lst
    obtain ⟨a2, vs2, rfl, h2, r2⟩ := ry.lst
    split at e
    · rename_i hz
      cases e
      exact .inr (.inr (.inl ⟨a1, a2, vs1, vs2, rfl, rfl, h1, h2, by rw [r1.length, r2.length]; exact hz, fun p hp => q _ _ (EPost.lst b hp (r1.append r2))⟩))
    · cases e
theorem ops_int {bx : Bx} {C : Int → Int → Prop} {g : Int → Int → V} {o : D → D → Option (Fg × D)} (h : ∀ dx dy z, o dx dy = some z → ∃ i j, dx = .int i ∧ dy = .int j ∧ C i j ∧ ∀ K sa H, z.1 = .sh ∧ RD K sa H (g i j) z.2) : OpS bx (rI C g) o := by
  intro ow H ls x y dx dy z Q b rx ry e q
  obtain ⟨i, j, rfl, rfl, hc, hz⟩ := h dx dy z e
  obtain rfl := rx.int
  obtain rfl := ry.int
  refine ⟨i, j, rfl, rfl, hc, q _ _ ?_⟩
  obtain ⟨h1, h2⟩ := hz bx.K bx.sa (mn bx.O ow H)
  obtain ⟨z1, z2⟩ := z
  have h1 : z1 = .sh := h1
  subst h1
  exact EPost.same b h2
theorem ops_int0 {bx : Bx} {g : Int → Int → V} {o : D → D → Option (Fg × D)} (h : ∀ dx dy z, o dx dy = some z → ∃ i j, dx = .int i ∧ dy = .int j ∧ ∀ K sa H, z.1 = .sh ∧ RD K sa H (g i j) z.2) : OpS bx (rI0 g) o := by
  intro ow H ls x y dx dy z Q b rx ry e q
  obtain ⟨i, j, rfl, rfl, hz⟩ := h dx dy z e
  obtain rfl := rx.int
  obtain rfl := ry.int
  refine ⟨i, j, rfl, rfl, q _ _ ?_⟩
  obtain ⟨h1, h2⟩ := hz bx.K bx.sa (mn bx.O ow H)
  obtain ⟨z1, z2⟩ := z
  have h1 : z1 = .sh := h1
  subst h1
  exact EPost.same b h2
theorem ops_sub {bx : Bx} : OpS bx (rI0 fun i j => .int (i - j)) subD := ops_int0 fun dx dy z e => by
  cases dx <;> cases dy <;> simp only [subD] at e <;> try (cases e; done)
  cases e
  exact ⟨_, _, rfl, rfl, fun _ _ _ => ⟨rfl, .int _⟩⟩
theorem op_fdivZ {X : Cx} : OpR X (binaryOp .FloorDiv) (rI (fun _ j => j ≠ 0 ∧ j.natAbs.log2 < 9000) fun i j => .int (i.fdiv j)) :=
  opI fun _ _ _ _ _ _ _ hc q => floordiv_int hc.1 q (.inl (PyProof.noPylong_of_log2 hc.2))
theorem ops_fdiv {bx : Bx} : OpS bx (rI (fun _ j => j ≠ 0 ∧ j.natAbs.log2 < 9000) fun i j => .int (i.fdiv j)) fdivD := ops_int fun dx dy z e => by
  cases dx <;> cases dy <;> simp only [fdivD] at e <;> try (cases e; done)
  split at e
  · rename_i h
    cases e
    exact ⟨_, _, rfl, rfl, h, fun _ _ _ => ⟨rfl, .int _⟩⟩
  · cases e
theorem ops_mod {bx : Bx} : OpS bx (rI (fun _ j => j ≠ 0) fun i j => .int (i.fmod j)) modD := ops_int fun dx dy z e => by
  cases dx <;> cases dy <;> simp only [modD] at e <;> try (cases e; done)
  split at e
  · rename_i h
    cases e
    exact ⟨_, _, rfl, rfl, h, fun _ _ _ => ⟨rfl, .int _⟩⟩
  · cases e
theorem ops_pow {bx : Bx} : OpS bx (rI CPow fun i j => .int (i ^ j.toNat)) powD := ops_int fun dx dy z e => by
  cases dx <;> cases dy <;> simp only [powD] at e <;> try (cases e; done)
  split at e
  · rename_i h
    cases e
    exact ⟨_, _, rfl, rfl, h, fun _ _ _ => ⟨rfl, .int _⟩⟩
  · cases e
theorem ops_shl {bx : Bx} : OpS bx (rI CPow fun i j => .int (i * 2 ^ j.toNat)) shlD := ops_int fun dx dy z e => by
  cases dx <;> cases dy <;> simp only [shlD] at e <;> try (cases e; done)
  split at e
  · rename_i h
    cases e
    exact ⟨_, _, rfl, rfl, h, fun _ _ _ => ⟨rfl, .int _⟩⟩
  · cases e
def rMulB (K : PySem.W.Frag) : R2 := fun x y H Q => (rI CMulW (fun i j => .int (i * j)) x y H Q) ∨ (rRep x y H Q ∨ rRepT K x y H Q)
theorem opr_mul {X : Cx} : OpR X (binaryOp .Mult) (rMulB X.K) := op_mulW.or (op_rep.or op_repT)
theorem ops_mul {bx : Bx} : OpS bx (rMulB bx.K) mulD := by
  intro ow H ls x y dx dy z Q b rx ry e q
  cases dx <;> cases dy <;> simp only [mulD] at e <;> try (cases e; done)
  · rename_i i j
    obtain rfl := rx.int
    obtain rfl := ry.int
    split at e
    · rename_i hz
      cases e
      exact .inl ⟨i, j, rfl, rfl, hz, q _ _ (EPost.same b (.int _))⟩
    · cases e
  · rename_i i j
    obtain ⟨_, a1, vs1, rfl, h1, r1⟩ := rx.tup
    obtain rfl := ry.int
    split at e
    · rename_i hz
      cases e
      refine .inr (.inr ⟨a1, j, vs1, rfl, rfl, h1, fun z => hz.1 (r1.nil_iff.mp z), hz.2.1, hz.2.2.1, by rw [r1.length]; exact hz.2.2.2, fun p hp => q _ _ (EPost.tup b hp (r1.rep _))⟩)
    · cases e
  · rename_i i j
    obtain ⟨a1, vs1, rfl, h1, r1⟩ := rx.lst
    obtain rfl := ry.int
    split at e
    · rename_i hz
      cases e
      refine .inr (.inl ⟨a1, j, vs1, rfl, rfl, h1, by omega, by omega, by rw [r1.length]; exact hz.2.2, fun p hp => q _ _ (EPost.lst b hp (r1.rep _))⟩)
    · cases e

/-! ### comparisons -/
def cmpD (g : Int → Int → Bool) : D → D → Option (Fg × D)
  | .int a, .int b => some (.sh, .bl (g a b))
  | _, _ => none
theorem ops_cmp {bx : Bx} (g : Int → Int → Bool) : OpS bx (rI0 fun i j => .bl (g i j)) (cmpD g) := ops_int0 fun dx dy z e => by
  cases dx <;> cases dy <;> simp only [cmpD] at e <;> try (cases e; done)
  cases e
  exact ⟨_, _, rfl, rfl, fun _ _ _ => ⟨rfl, .bl _⟩⟩
abbrev ltD := cmpD fun i j => decide (i < j)
abbrev leD := cmpD fun i j => decide (i ≤ j)
abbrev gtD := cmpD fun i j => decide (j < i)
abbrev geD := cmpD fun i j => decide (j ≤ i)

mutual
def toPy : D → Option PyData
  | .non => some .none
  | .bl b => some (.bool b)
  | .int i => some (.int i)
  | .str x => some (.str x)
  | .tup xs => (toPys xs).map .tuple
  | .lst xs => (toPys xs).map .list
  | .dk _ => none
  | .op _ => none
  | .st => none
  | .scr ns => some (.list (ns.map .int))
def toPys : List D → Option (List PyData)
  | [] => some []
  | x :: xs => match toPy x, toPys xs with
    | some a, some b => some (a :: b)
    | _, _ => none
end
theorem dp_ints {K : PySem.W.Frag} {H : Hp} : ∀ ns : List Int, DpAll K H (ns.map V.int) (ns.map PyData.int)
  | [] => .nil
  | n :: ns => .cons (.int n) (dp_ints ns)
mutual
theorem RD.dp {K : PySem.W.Frag} {sa : Addr} {H : Hp} : ∀ {v : V} {d : D} {p : PyData}, RD K sa H v d → toPy d = some p → Dp K H v p
  | _, _, _, .non, e => by simp only [toPy] at e; cases e; exact .non
  | _, _, _, .bl b, e => by simp only [toPy] at e; cases e; exact .bl b
  | _, _, _, .int i, e => by simp only [toPy] at e; cases e; exact .int i
  | _, _, _, .str x, e => by simp only [toPy] at e; cases e; exact .str x
  | _, _, _, .lst (ds := ds) h r, e => by
    simp only [toPy] at e
    obtain ⟨ps, e1, rfl⟩ := Option.map_eq_some_iff.mp e
    exact .lst (SqL.of h) (RDs.dp r e1)
  | _, _, _, .tup (ds := ds) h r, e => by
    simp only [toPy] at e
    obtain ⟨ps, e1, rfl⟩ := Option.map_eq_some_iff.mp e
    exact .tup h (RDs.dp r e1)
  | _, _, _, .dk _ _, e => by simp only [toPy] at e; cases e
  | _, _, _, .op _, e => by simp only [toPy] at e; cases e
  | _, _, _, .st, e => by simp only [toPy] at e; cases e
  | _, _, _, .scr (ns := ns) h, e => by
    simp only [toPy] at e
    cases e
    exact .lst h (dp_ints ns)
theorem RDs.dp {K : PySem.W.Frag} {sa : Addr} {H : Hp} : ∀ {v : List V} {d : List D} {p : List PyData}, RDs K sa H v d → toPys d = some p → DpAll K H v p
  | _, _, _, .nil, e => by simp only [toPys] at e; cases e; exact .nil
  | _, _, _, .cons (d := d) (ds := ds) a r, e => by
    simp only [toPys] at e
    cases e1 : toPy d with
    | none => rw [e1] at e; cases e
    | some q =>
      cases e2 : toPys ds with
      | none => rw [e1, e2] at e; cases e
      | some qs =>
        rw [e1, e2] at e
        cases e
        exact .cons (RD.dp a e1) (RDs.dp r e2)
end
def eqB (a b : D) : Option Bool := match toPy a, toPy b with
  | some p, some q => if SeqAt.shaped p = true ∧ SeqAt.shaped q = true then some (PyData.eqv p q) else none
  | _, _ => none
def eqD (a b : D) : Option (Fg × D) := (eqB a b).map fun k => (.sh, .bl k)
def neD (a b : D) : Option (Fg × D) := (eqB a b).map fun k => (.sh, .bl (!k))
theorem eqB_some {a b : D} {k : Bool} (h : eqB a b = some k) : ∃ p q, toPy a = some p ∧ toPy b = some q ∧ SeqAt.shaped p = true ∧ SeqAt.shaped q = true ∧ k = PyData.eqv p q := by
  unfold eqB at h
  split at h
  · rename_i p q e1 e2
    split at h
    · rename_i hs
      cases h
      exact ⟨p, q, e1, e2, hs.1, hs.2, rfl⟩
    · cases h
  · cases h
theorem ops_eq {bx : Bx} : OpS bx (rEqD bx.K) eqD := by
  intro ow H ls x y dx dy z Q b rx ry e q
  obtain ⟨k, e1, rfl⟩ := Option.map_eq_some_iff.mp e
  obtain ⟨p, r, h1, h2, h3, h4, rfl⟩ := eqB_some e1
  exact ⟨p, r, rx.full.dp h1, ry.full.dp h2, h3, h4, q _ _ (EPost.same b (.bl _))⟩
theorem ops_ne {bx : Bx} : OpS bx (rNeD bx.K) neD := by
  intro ow H ls x y dx dy z Q b rx ry e q
  obtain ⟨k, e1, rfl⟩ := Option.map_eq_some_iff.mp e
  obtain ⟨p, r, h1, h2, h3, h4, rfl⟩ := eqB_some e1
  exact ⟨p, r, rx.full.dp h1, ry.full.dp h2, h3, h4, q _ _ (EPost.same b (.bl _))⟩
/-- is None, is not None -/
def isN : D → Option Bool
  | .non => some true
  | .op _ => none
  | _ => some false
def isD (a b : D) : Option (Fg × D) := match b with
  | .non => (isN a).map fun k => (.sh, .bl k)
  | _ => none
def notD (a b : D) : Option (Fg × D) := match b with
  | .non => (isN a).map fun k => (.sh, .bl (!k))
  | _ => none
theorem isN_of {bx : Bx} {ow : List Addr} {H : Hp} {v : V} {d : D} {k : Bool} (r : RB bx ow H v d) (e : isN d = some k) : decide (v = .non) = k := by
  have f := r.full
  cases d <;> simp only [isN] at e <;> cases e <;> cases f <;> simp
theorem ops_is {bx : Bx} : OpS bx (fun x y H Q => y = .non ∧ Q (.bl (decide (x = .non))) H) isD := by
  intro ow H ls x y dx dy z Q b rx ry e q
  cases dy <;> simp only [isD] at e <;> try (cases e; done)
  obtain ⟨k, e1, rfl⟩ := Option.map_eq_some_iff.mp e
  obtain rfl := ry.non
  refine ⟨rfl, ?_⟩
  rw [isN_of rx e1]
  exact q _ _ (EPost.same b (.bl _))
theorem ops_isnot {bx : Bx} : OpS bx (fun x y H Q => y = .non ∧ Q (.bl (!decide (x = .non))) H) notD := by
  intro ow H ls x y dx dy z Q b rx ry e q
  cases dy <;> simp only [notD] at e <;> try (cases e; done)
  obtain ⟨k, e1, rfl⟩ := Option.map_eq_some_iff.mp e
  obtain rfl := ry.non
  refine ⟨rfl, ?_⟩
  rw [isN_of rx e1]
  exact q _ _ (EPost.same b (.bl _))

/-! ### in -/
def getK (kvs : List (Key × D)) (k : Key) : Option D := (kvs.find? fun kv => decide (kv.1 = k)).map (·.2)
def putD (kvs : List (Key × D)) (k : Key) (v : D) : List (Key × D) :=
  if (kvs.any fun kv => decide (kv.1 = k)) = true then kvs.map (fun kv => if kv.1 = k then (kv.1, v) else kv) else kvs ++ [(k, v)]
def keyD : D → Option Key
  | .int i => some (.inl i)
  | .str x => some (.inr x)
  | _ => none
theorem keyD_of {bx : Bx} {ow : List Addr} {H : Hp} {v : V} {d : D} {k : Key} (r : RB bx ow H v d) (e : keyD d = some k) : v = kV k := by
  cases d <;> simp only [keyD] at e <;> cases e
  · exact r.int
  · exact r.str
theorem RDk.val {K : PySem.W.Frag} {sa : Addr} {H : Hp} (k : Key) : ∀ {vs : List (Key × V)} {ds : List (Key × D)}, RDk K sa H vs ds → (valV vs k = none ∧ getK ds k = none) ∨ ∃ v d, valV vs k = some v ∧ getK ds k = some d ∧ RD K sa H v d
  | _, _, .nil => .inl ⟨rfl, rfl⟩
  | _, _, .cons (k := j) (v := v) (d := d) (vs := vs) (ds := ds) a r => by
    by_cases e : j = k
    · refine .inr ⟨v, d, valV_pos e, ?_, a⟩
      simp [getK, List.find?_cons, e]
    · have e1 : getK ((j, d) :: ds) k = getK ds k := by simp [getK, List.find?_cons, e]
      rw [valV_neg (p := (j, v)) e, e1]
      exact RDk.val k r
def inD (a b : D) : Option Bool := match b with
  | .dk kvs => match a with
    | .non => some false
    | a => (keyD a).map fun k => (getK kvs k).isSome
  | .lst ds => match toPy a, toPys ds with
    | some p, some qs => if SeqAt.shaped p = true ∧ SeqAt.shaped (.list qs) = true then some (qs.any fun z => PyData.eqv z p) else none
    | _, _ => none
  | _ => none
def rDIn (neg : Bool) : R2 := fun x y H Q => (∃ a o, y = .ref a ∧ DGet H a x o ∧ Q (.bl (if neg then !o.isSome else o.isSome)) H) ∨ ∃ a kvs, y = .ref a ∧ x = .non ∧ H a = some (.dK kvs) ∧ Q (.bl neg) H
theorem op_dIn {X : Cx} (hu : X.A.units + 1 < cLine) : OpR X (compareOp .In) (rDIn false) := by
  intro pins s σ H x y v u Q I rx ry h
  rcases h with ⟨a, o, rfl, g, q⟩ | ⟨a, kvs, rfl, rfl, e, q⟩
  · cases ry
    exact d_in hu I g rx fun s' I' => ⟨.bl _, H, I', rfl, q⟩
  · cases ry
    cases rx
    exact d_inNone I (Rd.of e) fun s' I' => ⟨.bl _, H, I', rfl, q⟩
theorem op_dNotIn {X : Cx} (hu : X.A.units + 1 < cLine) : OpR X (compareOp .NotIn) (rDIn true) := by
  intro pins s σ H x y v u Q I rx ry h
  rcases h with ⟨a, o, rfl, g, q⟩ | ⟨a, kvs, rfl, rfl, e, q⟩
  · cases ry
    exact d_notIn hu I g rx fun s' I' => ⟨.bl _, H, I', rfl, q⟩
  · cases ry
    cases rx
    exact d_notInNone I (Rd.of e) fun s' I' => ⟨.bl _, H, I', rfl, q⟩
def rInB (K : PySem.W.Frag) : R2 := fun x y H Q => rDIn false x y H Q ∨ rInD K x y H Q
def rNotInB (K : PySem.W.Frag) : R2 := fun x y H Q => rDIn true x y H Q ∨ rNotInD K x y H Q
theorem opr_in {X : Cx} (hu : X.A.units + 65 < cLine) : OpR X (compareOp .In) (rInB X.K) := (op_dIn (by omega)).or (op_inD hu)
theorem opr_notin {X : Cx} (hu : X.A.units + 65 < cLine) : OpR X (compareOp .NotIn) (rNotInB X.K) := (op_dNotIn (by omega)).or (op_notInD hu)
def inO (a b : D) : Option (Fg × D) := (inD a b).map fun k => (.sh, .bl k)
def notinO (a b : D) : Option (Fg × D) := (inD a b).map fun k => (.sh, .bl (!k))
theorem in_cases {bx : Bx} {ow : List Addr} {H : Hp} {x y : V} {dx dy : D} {k : Bool} (rx : RB bx ow H x dx) (ry : RB bx ow H y dy) (e : inD dx dy = some k) :
    (∃ a o, y = .ref a ∧ DGet H a x o ∧ k = o.isSome) ∨ (∃ a kvs, y = .ref a ∧ x = .non ∧ H a = some (.dK kvs) ∧ k = false) ∨
    ∃ d ds, Dp bx.K H x d ∧ Dp bx.K H y (.list ds) ∧ SeqAt.shaped d = true ∧ SeqAt.shaped (.list ds) = true ∧ k = ds.any fun z => PyData.eqv z d := by
  cases dy with
  | dk kvs =>
    obtain ⟨a, vs, rfl, h1, r1⟩ := ry.dk
    have key : ∀ c, keyD dx = some c → k = (getK kvs c).isSome → ∃ a' o, V.ref a = .ref a' ∧ DGet H a' x o ∧ k = o.isSome := fun c hc hk => by
      obtain rfl := keyD_of rx hc
      refine ⟨a, _, rfl, DGet.k h1, ?_⟩
      rcases r1.val c with ⟨e1, e2⟩ | ⟨v, d, e1, e2, _⟩
      · rw [hk, e1, e2]; rfl
      · rw [hk, e1, e2]; rfl
    cases dx with
    | non =>
      simp only [inD] at e
      cases e
      obtain rfl := rx.non
      exact .inr (.inl ⟨a, vs, rfl, rfl, h1, rfl⟩)
    | int i => simp only [inD, keyD, Option.map_some] at e; cases e; exact .inl (key _ rfl rfl)
    | str i => simp only [inD, keyD, Option.map_some] at e; cases e; exact .inl (key _ rfl rfl)
    | _ => simp only [inD, keyD] at e; cases e
  | lst ds =>
    simp only [inD] at e
    split at e
    · rename_i p qs e1 e2
      split at e
      · rename_i hs
        cases e
        refine .inr (.inr ⟨p, qs, rx.full.dp e1, ry.full.dp ?_, hs.1, hs.2, rfl⟩)
        simp only [toPy, e2, Option.map_some]
      · cases e
    · cases e
  | _ => simp only [inD] at e; cases e
theorem ops_in {bx : Bx} : OpS bx (rInB bx.K) inO := by
  intro ow H ls x y dx dy z Q b rx ry e q
  obtain ⟨k, e1, rfl⟩ := Option.map_eq_some_iff.mp e
  rcases in_cases rx ry e1 with ⟨a, o, rfl, g, rfl⟩ | ⟨a, kvs, rfl, rfl, h, rfl⟩ | ⟨d, ds, h1, h2, h3, h4, rfl⟩
  · exact .inl (.inl ⟨a, o, rfl, g, q _ _ (EPost.same b (.bl _))⟩)
  · exact .inl (.inr ⟨a, kvs, rfl, rfl, h, q _ _ (EPost.same b (.bl _))⟩)
  · exact .inr ⟨d, ds, h1, h2, h3, h4, q _ _ (EPost.same b (.bl _))⟩
theorem ops_notin {bx : Bx} : OpS bx (rNotInB bx.K) notinO := by
  intro ow H ls x y dx dy z Q b rx ry e q
  obtain ⟨k, e1, rfl⟩ := Option.map_eq_some_iff.mp e
  rcases in_cases rx ry e1 with ⟨a, o, rfl, g, rfl⟩ | ⟨a, kvs, rfl, rfl, h, rfl⟩ | ⟨d, ds, h1, h2, h3, h4, rfl⟩
  · exact .inl (.inl ⟨a, o, rfl, g, q _ _ (EPost.same b (.bl _))⟩)
  · exact .inl (.inr ⟨a, kvs, rfl, rfl, h, q _ _ (EPost.same b (.bl _))⟩)
  · exact .inr ⟨d, ds, h1, h2, h3, h4, q _ _ (EPost.same b (.bl _))⟩
end BL
end

section
set_option Elab.async false
set_option linter.all false
set_option maxRecDepth 100000
set_option maxHeartbeats 4000000
namespace PySem.Spec
open PySem PySem.W PySem.Calls PyProof.Rows HT
section
variable {prog : Program} {w : World} {A : Around} {E : Value → Shared → Prop} {s : Shared}
theorem bl_applied_rev {sl : Addr} {t0 : Tok} {n : Nat} {R : Int × Int × Nat → Shared → Prop} (k0 : s.heap.IsSliceOf sl .none .none (.int (-1) t0))
    (fin : R ((n : Int) - 1, -1, n) s) : wpAny (model prog w) A (Builtin.Slice.sliceApplied (.ref sl) (pure (n : Int))) R E s := by
  obtain ⟨os, e1, e2, e3⟩ := id k0
  unfold Builtin.Slice.sliceApplied Builtin.Slice.sliceFields
  refine wpAny_bind (wpAny_bind (wpAny_field e1 e3 (x := .none) rfl (wpAny_bind (wpAny_field e1 e3 (x := .none) rfl (wpAny_bind (wpAny_field e1 e3 (x := .int (-1) t0) rfl (wpAny_pure ?_)))))))
  refine wpAny_bind (slicePart_int ?_)
  show wpAny _ _ (if ((-1 : Int) == 0) = true then _ else _) _ _ s
  rw [if_neg (by decide)]
  refine wpAny_bind (slicePart_none (wpAny_bind (slicePart_none (wpAny_bind (wpAny_pure ?_)))))
  show wpAny _ _ (match Builtin.Slice.sliceAdjust none none (-1) (n : Int) with | (lo, hi) => pure (lo, (-1 : Int), Builtin.Slice.slicePlaces lo hi (-1))) _ _ s
  have e4 : Builtin.Slice.sliceAdjust none none (-1) (n : Int) = ((n : Int) - 1, -1) := by
    unfold Builtin.Slice.sliceAdjust
    simp
  rw [e4]
  show wpAny _ _ (pure ((n : Int) - 1, (-1 : Int), Builtin.Slice.slicePlaces ((n : Int) - 1) (-1) (-1))) _ _ s
  have e5 : Builtin.Slice.slicePlaces ((n : Int) - 1) (-1) (-1) = n := by
    unfold Builtin.Slice.slicePlaces
    rw [if_neg (by decide)]
    simp
    split <;> omega
  rw [e5]
  exact wpAny_pure fin
theorem bl_fm {α β : Type} {f : α → Option β} {g : α → β} : ∀ {l : List α}, (∀ m ∈ l, f m = some (g m)) → l.filterMap f = l.map g
  | [], _ => rfl
  | a :: l, h => by
    rw [List.filterMap_cons, h a List.mem_cons_self, List.map_cons]
    show g a :: l.filterMap f = _
    rw [bl_fm fun m hm => h m (List.mem_cons_of_mem _ hm)]
theorem bl_pick_rev (xs : Array Value) : ((List.range xs.size).filterMap fun (m : Nat) => xs[(((xs.size : Int) - 1) + (m : Int) * (-1)).toNat]?).toArray = xs.toList.reverse.toArray := by
  have e1 : ((List.range xs.size).filterMap fun (m : Nat) => xs[(((xs.size : Int) - 1) + (m : Int) * (-1)).toNat]?) = (List.range xs.size).map fun m => xs.toList.reverse.getD m .none := by
    refine bl_fm fun m hm => ?_
    have hm' : m < xs.size := List.mem_range.mp hm
    have e2 : (((xs.size : Int) - 1) + (m : Int) * (-1)).toNat = xs.size - 1 - m := by omega
    have hl : m < xs.toList.reverse.length := by simpa using hm'
    rw [e2, List.getD_eq_getElem?_getD, List.getElem?_eq_getElem hl]
    simp [List.getElem_reverse]
  rw [e1]
  congr 1
  apply List.ext_getElem
  · simp
  · intro i h1 h2
    simp [List.getD_eq_getElem?_getD, List.getElem?_eq_getElem h2]
theorem bl_tuple_rev {t sl : Addr} {items : Array Value} {t0 : Tok} {R : Value → Shared → Prop} (ht : IsTup s.heap t items) (k0 : s.heap.IsSliceOf sl .none .none (.int (-1) t0))
    (fin : R (.ref s.heap.objs.size) { s with heap := s.heap.push { cls := .type "tuple", data := .seq items.toList.reverse.toArray } }) (hsz : items.size ≤ sizeLine) : wpAny (model prog w) A (getItem (.ref t) (.ref sl)) R E s := by
  have okz : sizeOk (.seq items.toList.reverse.toArray) := by
    show items.toList.reverse.toArray.size ≤ sizeLine
    rw [List.size_toArray, List.length_reverse, Array.length_toList]
    exact hsz
  obtain ⟨os, e1, e2, e3⟩ := id k0
  have k1 : s.TypeIs (.ref sl) "slice" := ⟨os, e1, e2⟩
  unfold getItem
  try with_reducible refine wpAny_holding ?_
  first | refine wpAny_bind (wpAny_pure ?_) | skip
  refine wpAny_bind (wpAny_sequenceKey ht.typeIs (by decide) ?_)
  refine wpAny_bind (wpAny_callSpecial?_slot (name := Str.ofString "__getitem__") ht.typeIs PyProof.Rows.slot_tuple_getitem (wpAny_call_entry PyProof.Rows.slot_tuple_getitem ht.typeIs entry_tuple_getitem ?_ (args_tuple_getitem _ _)))
  show wpAny _ _ (Builtin.Tuple.tupleItemsOf (.ref t) >>= _) _ _ s
  refine wpAny_bind (tupleItemsOf_ ht ?_)
  refine wpAny_bind (wpAny_typeOf k1 ?_)
  rw [if_pos (by decide)]
  refine wpAny_bind (bl_applied_rev k0 ?_)
  have hno : ¬ ((((items.size : Int) - 1) == 0 && (-1 : Int) == 1 && items.size == items.size) = true) := by simp
  show wpAny _ _ (if ((((items.size : Int) - 1) == 0 && (-1 : Int) == 1 && items.size == items.size) = true) then _ else _) _ _ s
  rw [if_neg hno, bl_pick_rev]
  first
    | exact wpAny_bind (m := Builtin.Tuple.tupleExact _) (wpAny_newObj_type (wpAny_pure ⟨_, rfl, wpAny_pure fin⟩) okz)
    | exact wpAny_bind (m := Builtin.Tuple.tupleExact _) (wpAny_newObj_type (wpAny_bind (wpAny_pure (wpAny_pure ⟨_, rfl, wpAny_pure fin⟩))) okz)
    | exact wpAny_bind (wpAny_bind (m := Builtin.Tuple.tupleExact _) (wpAny_newObj_type (wpAny_pure (wpAny_pure ⟨_, rfl, wpAny_pure fin⟩)) okz))
    | exact wpAny_bind (wpAny_bind (m := Builtin.Tuple.tupleExact _) (wpAny_newObj_type (wpAny_pure ⟨_, rfl, wpAny_pure fin⟩) okz))
end
end PySem.Spec
namespace BL
open PySem PySem.Spec PyProof.Rows L2
def rRevQ (K : PySem.W.Frag) (x : V) (H : Hp) (Q : VK) : Prop := (∃ a xs, x = .ref a ∧ SqL K H a xs ∧ ∀ p, H p = none → Q (.ref p) (upd H p (.lst xs.reverse))) ∨ (∃ a xs, x = .ref a ∧ SqT K H a xs ∧ ∀ p, H p = none → Q (.ref p) (upd H p (.tup xs.reverse)))
def tRevB (K : PySem.W.Frag) (te : TE) : TE := fun σ H Q => te σ H fun x H1 => rRevQ K x H1 Q
theorem pe_revB {X : Cx} {e : Expr} {te : TE} {k : Nat} {p1 p2 p3 pos : Pos} (he : PE X e te) : PE X (.Subscript e (.Slice none none (some (.UnaryOp .USub (.Constant (.int 1) k p1) p2)) p3) pos) (tRevB X.K te) := by
  refine ⟨fun pins s σ H Q I h0 => ?_⟩
  refine Subscript_ (thn (he.run pins s σ H _ I h0) fun v s1 ⟨x, H1, I1, r1, q1⟩ => ?_)
  have hst : PO X (some (.UnaryOp .USub (.Constant (.int 1) k p1) p2)) (tPart (tUn (rU fun i => .int (-i)) (tC (.int 1)))) := po_some (pe_un un_neg pe_int)
  refine wpAny_Slice (thn (po_none.run pins s1 σ H1 (fun o H2 => o = none ∧ H2 = H1) I1 ⟨rfl, rfl⟩) fun vl s2 ⟨l, H2, I2, pl, el, e2⟩ => ?_)
  subst el e2
  refine thn (po_none.run pins s2 σ H2 (fun o H3 => o = none ∧ H3 = H2) I2 ⟨rfl, rfl⟩) fun vu s3 ⟨u, H3, I3, pu, eu, e3⟩ => ?_
  subst eu e3
  refine thn (hst.run pins s3 σ H3 (fun o H4 => o = some (-1) ∧ H4 = H3) I3 ⟨1, rfl, -1, rfl, rfl, rfl⟩) fun vs s4 ⟨o, H4, I4, ps, eo, e4⟩ => ?_
  subst eo e4
  have I5 : Inv X pins σ H4 { s4 with heap := s4.heap.push { cls := .type "slice", data := .fields #[vl, vu, vs] } } := I4.kept (t' := s4.toks) fun b ob q => Heap.get?_push_of_some _ q
  rcases q1 with ⟨a, xs, ex, hx, q⟩ | ⟨a, xs, ex, hx, q⟩
  · subst ex
    cases r1
    obtain ⟨its, r, ht, hz⟩ := I5.list hx
    have hlen := r.length
    show wpAny (model X.prog X.w) X.A (subscriptTail e (.Slice none none (some (.UnaryOp .USub (.Constant (.int 1) k p1) p2)) p3) (.ref a) (.ref s4.heap.objs.size)) (EP X pins σ Q) X.xe { s4 with heap := s4.heap.push { cls := .type "slice", data := .fields #[vl, vu, vs] } }
    refine tail_any (ops := [.ref a, .ref s4.heap.objs.size]) ht.isList.typeIs (PySem.slot_list_getitem.lookup) ?_ (by with_unfolding_all rfl)
    refine wpAny_getItem_list_slice ht.isList (Heap.IsSliceOf.new _ vl vu vs) pl pu ps (by decide) ?_ (by rw [List.size_toArray]; omega)
    rw [PySem.W.krv_pick]
    refine ⟨.ref _, _, I5.laid (t' := s4.toks) (o := .lst xs.reverse) (fun b ob q => Heap.get?_push_of_some _ q) (Nat.le_refl _) ?_, rfl, q _ (I5.hok.fresh (Nat.le_refl _))⟩
    exact ⟨by rw [List.length_reverse]; exact hz, _, 0, r.reverse, Heap.get?_push_size _ rfl⟩
  · subst ex
    cases r1
    obtain ⟨its, r, ht, hz⟩ := I5.tuple hx
    have hlen := r.length
    cases pl
    cases pu
    cases ps with
    | int _ t0 =>
    show wpAny (model X.prog X.w) X.A (subscriptTail e (.Slice none none (some (.UnaryOp .USub (.Constant (.int 1) k p1) p2)) p3) (.ref a) (.ref s4.heap.objs.size)) (EP X pins σ Q) X.xe { s4 with heap := s4.heap.push { cls := .type "slice", data := .fields #[.none, .none, .int (-1) t0] } }
    refine tail_any (ops := [.ref a, .ref s4.heap.objs.size]) ht.typeIs (PyProof.Rows.slot_tuple_getitem.lookup) ?_ (by with_unfolding_all rfl)
    refine PySem.Spec.bl_tuple_rev ht (Heap.IsSliceOf.new _ .none .none (.int (-1) t0)) ?_ (by rw [List.size_toArray]; omega)
    refine ⟨.ref _, _, I5.laid (t' := s4.toks) (o := .tup xs.reverse) (fun b ob q => Heap.get?_push_of_some _ q) (Nat.le_refl _) ?_, rfl, q _ (I5.hok.fresh (Nat.le_refl _))⟩
    exact ⟨by rw [List.length_reverse]; exact hz, _, r.reverse, IsTup.new _ _⟩
end BL
end

section
set_option Elab.async false
set_option linter.all false
set_option maxRecDepth 100000
set_option maxHeartbeats 4000000
namespace BL
open PySem PySem.Spec PyProof.Rows L2

/-! ### tests and bools -/
def bNot (c : Env1 → M Bool) : Env1 → M Bool := fun ρ => M.bind (c ρ) fun b => M.pure (!b)
def bAnd (c d : Env1 → M Bool) : Env1 → M Bool := fun ρ => M.bind (c ρ) fun b => if b = true then d ρ else M.pure false
def bOr (c d : Env1 → M Bool) : Env1 → M Bool := fun ρ => M.bind (c ρ) fun b => if b = true then M.pure true else d ρ
def eAnd (f g : Env1 → M (Fg × D)) : Env1 → M (Fg × D) := fun ρ => M.bind (f ρ) fun x => match x.2 with
  | .bl true => g ρ
  | .bl false => M.pure (.sh, .bl false)
  | _ => M.bad
def eOr (f g : Env1 → M (Fg × D)) : Env1 → M (Fg × D) := fun ρ => M.bind (f ρ) fun x => match x.2 with
  | .bl false => g ρ
  | .bl true => M.pure (.sh, .bl true)
  | _ => M.bad
def eNot (f : Env1 → M (Fg × D)) : Env1 → M (Fg × D) := fun ρ => M.bind (f ρ) fun x => match x.2 with
  | .bl b => M.pure (.sh, .bl (!b))
  | _ => M.bad
def eIf (c : Env1 → M Bool) (f g : Env1 → M (Fg × D)) : Env1 → M (Fg × D) := fun ρ => M.bind (c ρ) fun b => if b = true then f ρ else g ρ
def eUn (o : D → Option (Fg × D)) (f : Env1 → M (Fg × D)) : Env1 → M (Fg × D) := fun ρ => M.bind (f ρ) fun x => M.opt (o x.2)
def eNone : Env1 → M (Fg × D) := fun _ => M.bad
section
variable {X : Cx} {bx : Bx} {W : WX} {a b c e : Expr} {f g k : Env1 → M (Fg × D)} {tc td : Env1 → M Bool} {pos : Pos} {rest : List Expr}
theorem bt_not (ha : PT X a (tT bx W tc)) : PT X (.UnaryOp .Not a pos) (tT bx W (bNot tc)) :=
  PT.imp (pt_not ha) fun σ H Q h => by
    obtain ⟨ow, tmp, ρ, ls, R, h⟩ := h
    exact ⟨ow, tmp, ρ, ls, R, RunT.test h R fun b H1 ls1 R1 h1 => h1 H1 Kept.refl R1.lsr⟩
theorem bw_and1 (ha : PT X a (tT bx W tc)) : PW X (.BoolOp .And [a] pos) (tT bx W tc) := pw_and1 ha
theorem bw_or1 (ha : PT X a (tT bx W tc)) : PW X (.BoolOp .Or [a] pos) (tT bx W tc) := pw_or1 ha
theorem bw_and (ha : PT X a (tT bx W tc)) (hb : PW X (.BoolOp .And (b :: rest) pos) (tT bx W td)) : PW X (.BoolOp .And (a :: b :: rest) pos) (tT bx W (bAnd tc td)) :=
  PW.imp (pw_and ha hb) fun σ H Q h => by
    obtain ⟨ow, tmp, ρ, ls, R, h⟩ := h
    refine ⟨ow, tmp, ρ, ls, R, RunT.test h R fun b H1 ls1 R1 h1 => ?_⟩
    cases b with
    | true => exact ⟨ow, tmp, ρ, ls1, R1, h1⟩
    | false => exact h1 H1 Kept.refl R1.lsr
theorem bw_or (ha : PT X a (tT bx W tc)) (hb : PW X (.BoolOp .Or (b :: rest) pos) (tT bx W td)) : PW X (.BoolOp .Or (a :: b :: rest) pos) (tT bx W (bOr tc td)) :=
  PW.imp (pw_or ha hb) fun σ H Q h => by
    obtain ⟨ow, tmp, ρ, ls, R, h⟩ := h
    refine ⟨ow, tmp, ρ, ls, R, RunT.test h R fun b H1 ls1 R1 h1 => ?_⟩
    cases b with
    | false => exact ⟨ow, tmp, ρ, ls1, R1, h1⟩
    | true => exact h1 H1 Kept.refl R1.lsr
theorem bt_w (h : PW X a (tT bx W tc)) : PT X a (tT bx W tc) := h.pt
theorem be_and (ha : PE X a (tB bx W f)) (hb : PE X (.BoolOp .And (b :: rest) pos) (tB bx W g)) : PE X (.BoolOp .And (a :: b :: rest) pos) (tB bx W (eAnd f g)) :=
  PE.imp (pe_and ha hb) fun σ H Q h => by
    obtain ⟨ow, tmp, ρ, ls, R, h⟩ := h
    refine ⟨ow, tmp, ρ, ls, R, RunE.first h R fun x H1 z ls1 P1 R1 h1 => ?_⟩
    have r := P1.rb R.toBas
    obtain ⟨z1, z2⟩ := z
    cases z2 with
    | bl b =>
      obtain rfl := r.bl
      cases b with
      | true => exact ⟨true, rfl, by rw [if_pos rfl]; exact ⟨ow, tmp, ρ, ls1, R1, h1⟩⟩
      | false => exact ⟨false, rfl, by rw [if_neg (by decide)]; exact h1 _ _ (EPost.same R1.toBas (.bl false))⟩
    | _ => exact (show False from h1).elim
theorem be_or (ha : PE X a (tB bx W f)) (hb : PE X (.BoolOp .Or (b :: rest) pos) (tB bx W g)) : PE X (.BoolOp .Or (a :: b :: rest) pos) (tB bx W (eOr f g)) :=
  PE.imp (pe_or ha hb) fun σ H Q h => by
    obtain ⟨ow, tmp, ρ, ls, R, h⟩ := h
    refine ⟨ow, tmp, ρ, ls, R, RunE.first h R fun x H1 z ls1 P1 R1 h1 => ?_⟩
    have r := P1.rb R.toBas
    obtain ⟨z1, z2⟩ := z
    cases z2 with
    | bl b =>
      obtain rfl := r.bl
      cases b with
      | false => exact ⟨false, rfl, by rw [if_neg (by decide)]; exact ⟨ow, tmp, ρ, ls1, R1, h1⟩⟩
      | true => exact ⟨true, rfl, by rw [if_pos rfl]; exact h1 _ _ (EPost.same R1.toBas (.bl true))⟩
    | _ => exact (show False from h1).elim
theorem be_one {op} (h : PE X a (tB bx W f)) : PE X (.BoolOp op [a] pos) (tB bx W f) := pe_one h
theorem be_not (ha : PE X a (tB bx W f)) : PE X (.UnaryOp .Not a pos) (tB bx W (eNot f)) :=
  PE.imp (pe_not ha) fun σ H Q h => by
    obtain ⟨ow, tmp, ρ, ls, R, h⟩ := h
    refine ⟨ow, tmp, ρ, ls, R, RunE.first h R fun x H1 z ls1 P1 R1 h1 => ?_⟩
    have r := P1.rb R.toBas
    obtain ⟨z1, z2⟩ := z
    cases z2 with
    | bl b =>
      obtain rfl := r.bl
      exact ⟨b, rfl, h1 _ _ (EPost.same R1.toBas (.bl _))⟩
    | _ => exact (show False from h1).elim
theorem be_ifExp (hc : PT X c (tT bx W tc)) (ha : PE X a (tB bx W f)) (hb : PE X b (tB bx W g)) : PE X (.IfExp c a b pos) (tB bx W (eIf tc f g)) :=
  PE.imp (pe_ifExp hc ha hb) fun σ H Q h => by
    obtain ⟨ow, tmp, ρ, ls, R, h⟩ := h
    refine ⟨ow, tmp, ρ, ls, R, RunE.test h R fun b H1 ls1 R1 h1 => ?_⟩
    cases b with
    | true => rw [if_pos rfl]; exact ⟨ow, tmp, ρ, ls1, R1, h1⟩
    | false => rw [if_neg (by decide)]; exact ⟨ow, tmp, ρ, ls1, R1, h1⟩
def negD : D → Option (Fg × D)
  | .int i => some (.sh, .int (-i))
  | _ => none
theorem be_neg (ha : PE X a (tB bx W f)) : PE X (.UnaryOp .USub a pos) (tB bx W (eUn negD f)) :=
  PE.imp (pe_un un_neg ha) fun σ H Q h => by
    obtain ⟨ow, tmp, ρ, ls, R, h⟩ := h
    refine ⟨ow, tmp, ρ, ls, R, RunE.first h R fun x H1 z ls1 P1 R1 h1 => ?_⟩
    have r := P1.rb R.toBas
    obtain ⟨y, e, q⟩ := opt_ok h1
    obtain ⟨z1, z2⟩ := z
    cases z2 <;> simp only [negD] at e <;> try (cases e; done)
    cases e
    obtain rfl := r.int
    exact ⟨_, rfl, q _ _ (EPost.same R1.toBas (.int _))⟩
end

/-! ### subscripts, slices -/
def ixD : D → D → Option (Fg × D)
  | .lst xs, .int i => (atI xs i).map fun d => (.sh, d)
  | .tup xs, .int i => (atI xs i).map fun d => (.sh, d)
  | .dk kvs, k => (keyD k).bind fun k => (getK kvs k).map fun d => (.sh, d)
  | _, _ => none
theorem RDs.at {K : PySem.W.Frag} {sa : Addr} {H : Hp} {vs : List V} {ds : List D} {i : Int} {d : D} (r : RDs K sa H vs ds) (e : atI ds i = some d) : ∃ v, atI vs i = some v ∧ RD K sa H v d := by
  unfold atI at e ⊢
  rw [r.length]
  cases e1 : ixN ds.length i with
  | none => rw [e1] at e; cases e
  | some j =>
    rw [e1] at e
    exact r.get e
def rIxD0 : R2 := fun x y H Q => ∃ a v, x = .ref a ∧ DGet H a y (some v) ∧ Q v H
theorem ix_dict0 {X : Cx} (hu : X.A.units + 1 < cLine) : IxR X rIxD0 := by
  intro value slice pins s σ H x y v u Q I rx ry h0 hs
  obtain ⟨a, z, rfl, g, q⟩ := h0
  cases rx
  refine (?_ : wpAny (model X.prog X.w) X.A (subscriptTail value slice (.ref a) u) (EP X pins σ Q) X.xe s)
  have hT := dict_typeIs I g
  unfold subscriptTail
  refine wpAny_bind ?_
  rw [getitemInPython_of_ne hT.not_modules]
  refine wpAny_bind (wpAny_specialOf hT PySem.F.slot_dict_getitem.lookup ?_)
  have fin : wpAny (model X.prog X.w) X.A (subscripted slice false (.ref a) u) (fun r s3 => wpAny (model X.prog X.w) X.A (letTemporaryGo value (.ref a) r >>= fun _ => pure r) (EP X pins σ Q) X.xe s3) X.xe s := by
    rw [hs]
    exact wpAny_operating (d_getItem hu I g ry fun w' s3 I3 rw' => wpAny_bind (wpAny_letTemporaryGo (wpAny_pure ⟨z, H, I3, rw', q⟩)))
  first
    | exact wpAny_pure (wpAny_bind fin)
    | exact wpAny_bind (wpAny_pure (wpAny_bind fin))
    | exact wpAny_bind fin
def rIxB (K : PySem.W.Frag) : R2 := fun x y H Q => (rIxL K x y H Q ∨ rIxT K x y H Q) ∨ rIxD0 x y H Q


theorem ix_B {X : Cx} (hu : X.A.units + 1 < cLine) : IxR X (rIxB X.K) := (ix_list.or ix_tup).or (ix_dict0 hu)
theorem ops_ix {bx : Bx} : OpS bx (rIxB bx.K) ixD := by
  intro ow H ls x y dx dy z Q b rx ry e q
  cases dx with
  | lst ds =>
    cases dy with
    | int i =>
      simp only [ixD] at e
      obtain ⟨d, e1, rfl⟩ := Option.map_eq_some_iff.mp e
      obtain ⟨a, vs, rfl, h1, r1⟩ := rx.lst
      obtain rfl := ry.int
      obtain ⟨v, h2, h3⟩ := r1.at e1
      exact .inl (.inl ⟨a, vs, i, v, rfl, rfl, SqL.of h1, h2, q _ _ (EPost.same b h3)⟩)
    | _ => simp only [ixD] at e; cases e
  | tup ds =>
    cases dy with
    | int i =>
      simp only [ixD] at e
      obtain ⟨d, e1, rfl⟩ := Option.map_eq_some_iff.mp e
      obtain ⟨_, a, vs, rfl, h1, r1⟩ := rx.tup
      obtain rfl := ry.int
      obtain ⟨v, h2, h3⟩ := r1.at e1
      exact .inl (.inr ⟨a, vs, i, v, rfl, rfl, h1, h2, q _ _ (EPost.same b h3)⟩)
    | _ => simp only [ixD] at e; cases e
  | dk kvs =>
    have e : (keyD dy).bind (fun k => (getK kvs k).map fun d => (Fg.sh, d)) = some z := by cases dy <;> exact e
    obtain ⟨k, e1, e2⟩ := Option.bind_eq_some_iff.mp e
    obtain ⟨d, e3, rfl⟩ := Option.map_eq_some_iff.mp e2
    obtain ⟨a, vs, rfl, h1, r1⟩ := rx.dk
    obtain rfl := keyD_of ry e1
    rcases r1.val k with ⟨_, e4⟩ | ⟨v, d', e4, e5, r⟩
    · rw [e4] at e3; cases e3
    · rw [e5] at e3
      cases e3
      exact .inr ⟨a, v, rfl, e4 ▸ DGet.k h1, q _ _ (EPost.same b r)⟩
  | _ => simp only [ixD] at e; cases e
section
variable {X : Cx} {bx : Bx} {W : WX} {a b c e : Expr} {f g k : Env1 → M (Fg × D)} {tc td : Env1 → M Bool} {pos : Pos} {rest : List Expr}
theorem be_ix (hK : bx.K = X.K) (hu : X.A.units + 1 < cLine) (ha : PE X a (tB bx W f)) (hb : PE X b (tB bx W g)) (hs : PlainIx b) : PE X (.Subscript a b pos) (tB bx W (eOp ixD f g)) :=
  PE.imp (pe_ix (ix_B hu) ha hb hs) fun _ _ _ h => by rw [← hK]; exact tB_op ops_ix h
/-- slices -/
def cutD (xs : List D) (lo hi : Option Int) : List D := (xs.drop (HT.sIx xs.length 0 lo)).take (HT.sIx xs.length xs.length hi - HT.sIx xs.length 0 lo)
theorem RDs.drop {K : PySem.W.Frag} {sa : Addr} {H : Hp} : ∀ {vs : List V} {ds : List D} (n : Nat), RDs K sa H vs ds → RDs K sa H (vs.drop n) (ds.drop n)
  | _, _, 0, r => r
  | _, _, _ + 1, .nil => .nil
  | _, _, n + 1, .cons _ r => RDs.drop n r
theorem RDs.take {K : PySem.W.Frag} {sa : Addr} {H : Hp} : ∀ {vs : List V} {ds : List D} (n : Nat), RDs K sa H vs ds → RDs K sa H (vs.take n) (ds.take n)
  | _, _, 0, r => .nil
  | _, _, _ + 1, .nil => .nil
  | _, _, n + 1, .cons a r => .cons a (RDs.take n r)
theorem RDs.cut {K : PySem.W.Frag} {sa : Addr} {H : Hp} {vs : List V} {ds : List D} (r : RDs K sa H vs ds) (lo hi : Option Int) : RDs K sa H (cutV vs lo hi) (cutD ds lo hi) := by
  unfold cutV cutD
  rw [r.length]
  exact (r.drop _).take _
theorem RDs.rev {K : PySem.W.Frag} {sa : Addr} {H : Hp} : ∀ {vs : List V} {ds : List D}, RDs K sa H vs ds → RDs K sa H vs.reverse ds.reverse
  | _, _, .nil => .nil
  | _, _, .cons a r => by
    rw [List.reverse_cons, List.reverse_cons]
    exact (RDs.rev r).append (.cons a .nil)
def slD (x : D) (lo hi : Option Int) : Option (Fg × D) := match x with
  | .lst xs => some (.fr, .lst (cutD xs lo hi))
  | .tup xs => some (.sh, .tup (cutD xs lo hi))
  | _ => none
abbrev EO := Option (Env1 → M (Fg × D))
def oPart (o : EO) : Env1 → M (Option Int) := fun ρ => match o with
  | none => M.pure none
  | some f => M.bind (f ρ) fun x => match x.2 with
    | .int i => M.pure (some i)
    | _ => M.bad
def eSl (f : Env1 → M (Fg × D)) (lo hi : EO) : Env1 → M (Fg × D) := fun ρ => M.bind (f ρ) fun x => M.bind (oPart lo ρ) fun l => M.bind (oPart hi ρ) fun h => M.opt (slD x.2 l h)
def RunO (bx : Bx) (W : WX) (ow : List Addr) (σ : Sg) (H : Hp) (r : Res (Option Int)) (Q : Option Int → Hp → Prop) : Prop := match r with
  | .bad => False
  | .ok b ls' => ∀ H', Kept bx H H' → LSR bx H' ls' → Q b H'
  | .ex e ls' => ∀ cls dd H', XPost bx ow H e cls dd H' ls' → W cls dd σ H'
def tO (bx : Bx) (W : WX) (f : Env1 → M (Option Int)) : TO := fun σ H Q => ∃ ow tmp ρ ls, Rel bx ow tmp ρ σ H ls ∧ RunO bx W ow σ H (f ρ ls) Q
theorem bo_none : PO X none (tO bx W (oPart none)) := ⟨fun pins s σ H Q I h => po_none.run pins s σ H Q I (by
  obtain ⟨ow, tmp, ρ, ls, R, h⟩ := h
  exact h H Kept.refl R.lsr)⟩
theorem bo_some (ha : PE X a (tB bx W f)) : PO X (some a) (tO bx W (oPart (some f))) := ⟨fun pins s σ H Q I h => (po_some ha).run pins s σ H Q I (by
  obtain ⟨ow, tmp, ρ, ls, R, h⟩ := h
  refine ⟨ow, tmp, ρ, ls, R, ?_⟩
  unfold oPart M.bind at h
  simp only at h
  cases e : f ρ ls with
  | bad => rw [e] at h; exact h
  | ex x ls1 => rw [e] at h; exact h
  | ok z ls1 =>
    rw [e] at h
    intro v H1 P
    have r := P.rb R.toBas
    obtain ⟨z1, z2⟩ := z
    cases z2 with
    | int i =>
      obtain rfl := r.int
      exact ⟨i, rfl, h H1 P.kept P.lsr⟩
    | _ => exact (show False from h).elim)⟩
theorem RunE.part {ow : List Addr} {tmp : List Hp} {ρ : Env1} {σ : Sg} {H : Hp} {ls : LS} {m : M (Option Int)} {k : Option Int → M (Fg × D)} {Q : VK} {Q' : Option Int → Hp → Prop} (h : RunE bx W ow σ H (M.bind m k ls) Q) (R : Rel bx ow tmp ρ σ H ls)
    (hk : ∀ b H1 ls1, Kept bx H H1 → Rel bx ow tmp ρ σ H1 ls1 → RunE bx W ow σ H1 (k b ls1) Q → Q' b H1) : RunO bx W ow σ H (m ls) Q' := by
  unfold M.bind at h
  cases e : m ls with
  | bad => rw [e] at h; exact h
  | ok z ls1 =>
    rw [e] at h
    exact fun H1 P l => hk z H1 ls1 P (R.after P l) (h.shift R.toBas P l)
  | ex x ls1 => rw [e] at h; exact h
theorem be_slice {lo hi : Option Expr} {ol oh : EO} {p2 : Pos} (hK : bx.K = X.K) (ha : PE X a (tB bx W f)) (hl : PO X lo (tO bx W (oPart ol))) (hh : PO X hi (tO bx W (oPart oh))) : PE X (.Subscript a (.Slice lo hi none p2) pos) (tB bx W (eSl f ol oh)) := by
  refine PE.imp (pe_slice ((sl_list (X := X)).or sl_tupA) ha hl hh) fun σ H Q h => ?_
  obtain ⟨ow, tmp, ρ, ls, R, h⟩ := h
  refine ⟨ow, tmp, ρ, ls, R, RunE.first h R fun x H1 z ls1 P1 R1 h1 => ?_⟩
  refine ⟨ow, tmp, ρ, ls1, R1, RunE.part h1 R1 fun l H2 ls2 k2 R2 h2 => ?_⟩
  refine ⟨ow, tmp, ρ, ls2, R2, RunE.part h2 R2 fun u H3 ls3 k3 R3 h3 => ?_⟩
  have r := ((P1.rb R.toBas).after R1.toBas k2).after R2.toBas k3
  obtain ⟨y, e, q⟩ := opt_ok h3
  obtain ⟨z1, z2⟩ := z
  cases z2 <;> simp only [slD] at e <;> try (cases e; done)
  · cases e
    obtain ⟨rr, p, vs, rfl, s1, r1⟩ := r.tup
    refine .inr ⟨p, vs, rfl, hK ▸ s1, fun hw => ?_, fun _ p' hp => ?_⟩
    · refine q _ _ (EPost.same R3.toBas ?_)
      have e3 : ∀ ds : List D, ds.length = vs.length → cutD ds l u = ds := fun ds hl => by
        unfold cutD
        rw [hl, hw.1, hw.2, ← hl]
        simp
      rw [e3 _ r1.length.symm]
      exact rr
    · exact q _ _ (EPost.tup R3.toBas hp (r1.cut l u))
  · cases e
    obtain ⟨p, vs, rfl, s1, r1⟩ := r.lst
    exact .inl ⟨p, vs, rfl, SqL.of s1, fun p' hp => q _ _ (EPost.lst R3.toBas hp (r1.cut l u))⟩
def revD : D → Option (Fg × D)
  | .lst xs => some (.fr, .lst xs.reverse)
  | .tup xs => some (.sh, .tup xs.reverse)
  | _ => none
theorem be_rev {i : Nat} {p1 p2 p3 : Pos} (hK : bx.K = X.K) (ha : PE X a (tB bx W f)) : PE X (.Subscript a (.Slice none none (some (.UnaryOp .USub (.Constant (.int 1) i p1) p2)) p3) pos) (tB bx W (eUn revD f)) := by
  refine PE.imp (pe_revB ha) fun σ H Q h => ?_
  obtain ⟨ow, tmp, ρ, ls, R, h⟩ := h
  refine ⟨ow, tmp, ρ, ls, R, RunE.first h R fun x H1 z ls1 P1 R1 h1 => ?_⟩
  have r := P1.rb R.toBas
  obtain ⟨y, e, q⟩ := opt_ok h1
  obtain ⟨z1, z2⟩ := z
  cases z2 <;> simp only [revD] at e <;> try (cases e; done)
  · cases e
    obtain ⟨_, p, vs, rfl, s1, r1⟩ := r.tup
    exact .inr ⟨p, vs, rfl, hK ▸ s1, fun p' hp => q _ _ (EPost.tup R1.toBas hp r1.rev)⟩
  · cases e
    obtain ⟨p, vs, rfl, s1, r1⟩ := r.lst
    exact .inl ⟨p, vs, rfl, SqL.of s1, fun p' hp => q _ _ (EPost.lst R1.toBas hp r1.rev)⟩

/-! ### displays, arguments -/
def aNil : Env1 → M (List D) := fun _ => M.pure []
/-- shared (or fresh) arguments -/
def aCons (f : Env1 → M (Fg × D)) (t : Env1 → M (List D)) : Env1 → M (List D) := fun ρ => M.bind (f ρ) fun x => if x.1 = .bo then M.bad else M.bind (t ρ) fun xs => M.pure (x.2 :: xs)
/-- arguments that are read -/
def rCons (f : Env1 → M (Fg × D)) (t : Env1 → M (List D)) : Env1 → M (List D) := fun ρ => M.bind (f ρ) fun x => M.bind (t ρ) fun xs => M.pure (x.2 :: xs)
theorem ba_nil : PA X [] (tA bx W aNil) := PA.imp pa_nil fun σ H Q h => by
  obtain ⟨ow, tmp, ρ, ls, R, h⟩ := h
  exact h [] H Kept.refl R.lsr .nil
theorem br_nil : PA X [] (tR bx W aNil) := PA.imp pa_nil fun σ H Q h => by
  obtain ⟨ow, tmp, ρ, ls, R, h⟩ := h
  exact h [] H Kept.refl R.lsr .nil
theorem ba_cons {es : List Expr} {t : Env1 → M (List D)} (ha : PE X a (tB bx W f)) (hr : PA X es (tA bx W t)) (hs : starEach (a :: es) X.env = (false, eval a X.env) :: starEach es X.env := by rfl) : PA X (a :: es) (tA bx W (aCons f t)) :=
  PA.imp (pa_cons ha hr hs) fun σ H Q h => by
    obtain ⟨ow, tmp, ρ, ls, R, h⟩ := h
    refine ⟨ow, tmp, ρ, ls, R, RunA.first h R fun x H1 z ls1 P1 R1 h1 => ?_⟩
    by_cases hb : z.1 = .bo
    · rw [if_pos hb] at h1; exact (show False from h1).elim
    rw [if_neg hb] at h1
    refine ⟨ow, tmp, ρ, ls1, R1, RunA.next h1 R1 fun xs H2 ds ls2 k2 r2 R2 h2 => ?_⟩
    exact h2 _ H2 Kept.refl R2.lsr (.cons ((P1.rd R.toBas hb).mono (k2.mn R1.toBas)) r2)
theorem br_cons {es : List Expr} {t : Env1 → M (List D)} (ha : PE X a (tB bx W f)) (hr : PA X es (tR bx W t)) (hs : starEach (a :: es) X.env = (false, eval a X.env) :: starEach es X.env := by rfl) : PA X (a :: es) (tR bx W (rCons f t)) :=
  PA.imp (pa_cons ha hr hs) fun σ H Q h => by
    obtain ⟨ow, tmp, ρ, ls, R, h⟩ := h
    refine ⟨ow, tmp, ρ, ls, R, RunR.first h R fun x H1 z ls1 P1 R1 h1 => ?_⟩
    refine ⟨ow, tmp, ρ, ls1, R1, RunR.next h1 R1 fun xs H2 ds ls2 k2 r2 R2 h2 => ?_⟩
    exact h2 _ H2 Kept.refl R2.lsr (.cons ((P1.rb R.toBas).after R1.toBas k2) r2)
def eTup (t : Env1 → M (List D)) : Env1 → M (Fg × D) := fun ρ => M.bind (t ρ) fun xs => if xs.length ≤ sizeLine then M.pure (.sh, .tup xs) else M.bad
def eLst (t : Env1 → M (List D)) : Env1 → M (Fg × D) := fun ρ => M.bind (t ρ) fun xs => if xs.length ≤ sizeLine then M.pure (.fr, .lst xs) else M.bad
theorem be_tup {es : List Expr} {t : Env1 → M (List D)} {x1} (h : PA X es (tA bx W t)) : PE X (.Tuple es x1 pos) (tB bx W (eTup t)) :=
  PE.imp (pe_tup h) fun σ H Q h => by
    obtain ⟨ow, tmp, ρ, ls, R, h⟩ := h
    refine ⟨ow, tmp, ρ, ls, R, RunE.args h R fun xs H1 ds ls1 r1 R1 h1 => ?_⟩
    by_cases hl : ds.length ≤ sizeLine
    · rw [if_pos hl] at h1
      exact ⟨by rw [r1.length]; exact hl, fun p hp => h1 _ _ (EPost.tup R1.toBas hp r1)⟩
    · rw [if_neg hl] at h1; exact (show False from h1).elim
theorem be_lst {es : List Expr} {t : Env1 → M (List D)} (h : PA X es (tA bx W t)) : PE X (.List es pos) (tB bx W (eLst t)) :=
  PE.imp (pe_lst h) fun σ H Q h => by
    obtain ⟨ow, tmp, ρ, ls, R, h⟩ := h
    refine ⟨ow, tmp, ρ, ls, R, RunE.args h R fun xs H1 ds ls1 r1 R1 h1 => ?_⟩
    by_cases hl : ds.length ≤ sizeLine
    · rw [if_pos hl] at h1
      exact ⟨by rw [r1.length]; exact hl, fun p hp => h1 _ _ (EPost.lst R1.toBas hp r1)⟩
    · rw [if_neg hl] at h1; exact (show False from h1).elim
def eDk0 : Env1 → M (Fg × D) := fun _ => M.pure (.fr, .dk [])
theorem be_dk0 : PE X (.Dict [] [] pos) (tB bx W eDk0) := PE.imp pe_dnewK fun σ H Q h => by
  obtain ⟨ow, tmp, ρ, ls, R, h⟩ := h
  exact fun p hp => h _ _ (EPost.dk R.toBas hp .nil)

/-! ### built-ins -/
def eCB (o : List D → Option (Fg × D)) (t : Env1 → M (List D)) : Env1 → M (Fg × D) := fun ρ => M.bind (t ρ) fun xs => M.opt (o xs)
def CallS (bx : Bx) (r : List V → Hp → VK → Prop) (o : List D → Option (Fg × D)) : Prop := ∀ (ow : List Addr) (H : Hp) (ls : LS) (vs : List V) (ds : List D) (z : Fg × D) (Q : VK), Bas bx ow H ls → RBs bx ow H vs ds →
  o ds = some z → (∀ v H', EPost bx ow H v H' z.1 z.2 ls → Q v H') → r vs H Q
theorem be_cb {r : List V → Hp → VK → Prop} {o : List D → Option (Fg × D)} {t : Env1 → M (List D)} (h : PE X e (tCB r (tR bx W t))) (hs : CallS bx r o) : PE X e (tB bx W (eCB o t)) :=
  PE.imp h fun σ H Q h => by
    obtain ⟨ow, tmp, ρ, ls, R, h⟩ := h
    refine ⟨ow, tmp, ρ, ls, R, RunE.argsR h R fun xs H1 ds ls1 r1 R1 h1 => ?_⟩
    obtain ⟨z, e, q⟩ := opt_ok h1
    exact hs ow H1 ls1 xs ds z Q R1.toBas r1 e q
end
end BL
end

section
set_option Elab.async false
set_option linter.all false
set_option maxRecDepth 100000
set_option maxHeartbeats 4000000
namespace BL
open PySem PySem.Spec PyProof.Rows L2

theorem RBs.one {bx : Bx} {ow : List Addr} {H : Hp} {vs : List V} {d : D} (r : RBs bx ow H vs [d]) : ∃ v, vs = [v] ∧ RB bx ow H v d := by
  cases r with
  | cons a b => cases b; exact ⟨_, rfl, a⟩
theorem RBs.two {bx : Bx} {ow : List Addr} {H : Hp} {vs : List V} {d e : D} (r : RBs bx ow H vs [d, e]) : ∃ v u, vs = [v, u] ∧ RB bx ow H v d ∧ RB bx ow H u e := by
  cases r with
  | cons a b =>
    obtain ⟨u, rfl, r2⟩ := b.one
    exact ⟨_, u, rfl, a, r2⟩

/-! ### len -/
def lenD : List D → Option (Fg × D)
  | [.lst xs] => some (.sh, .int xs.length)
  | [.tup xs] => some (.sh, .int xs.length)
  | [.dk xs] => some (.sh, .int xs.length)
  | [.str x] => if x.length ≤ sizeLine then some (.sh, .int x.length) else none
  | _ => none
def rLenB (K : PySem.W.Frag) : List V → Hp → VK → Prop := fun xs H Q => (∃ x n, xs = [x] ∧ LenV K x H n ∧ Q (.int n) H) ∨ (∃ a kvs, xs = [V.ref a] ∧ H a = some (.dK kvs) ∧ Q (.int kvs.length) H)
theorem cr_len {X : Cx} : CallR X (.builtin "len") (rLenB X.K) := call_len.or call_lenD
theorem RDk.length {K : PySem.W.Frag} {sa : Addr} {H : Hp} : ∀ {vs : List (Key × V)} {ds : List (Key × D)}, RDk K sa H vs ds → vs.length = ds.length
  | _, _, .nil => rfl
  | _, _, .cons _ b => by rw [List.length_cons, List.length_cons, b.length]
theorem cs_len {bx : Bx} : CallS bx (rLenB bx.K) lenD := by
  intro ow H ls vs ds z Q b r e q
  match ds, e with
  | [d], e =>
    obtain ⟨v, rfl, r1⟩ := r.one
    cases d <;> simp only [lenD] at e <;> try (cases e; done)
    · rename_i x
      obtain rfl := r1.str
      split at e
      · rename_i hx
        cases e
        exact .inl ⟨_, _, rfl, ⟨hx, rfl⟩, q _ _ (EPost.same b (.int _))⟩
      · cases e
    · cases e
      obtain ⟨_, a, us, rfl, h1, r2⟩ := r1.tup
      rw [← r2.length] at q
      exact .inl ⟨_, us.length, rfl, .inr ⟨us, h1, rfl⟩, q _ _ (EPost.same b (.int _))⟩
    · cases e
      obtain ⟨a, us, rfl, h1, r2⟩ := r1.lst
      rw [← r2.length] at q
      exact .inl ⟨_, us.length, rfl, .inl ⟨us, SqL.of h1, rfl⟩, q _ _ (EPost.same b (.int _))⟩
    · cases e
      obtain ⟨a, us, rfl, h1, r2⟩ := r1.dk
      rw [← r2.length] at q
      exact .inr ⟨a, us, rfl, h1, q _ _ (EPost.same b (.int _))⟩
  | [], e => simp [lenD] at e
  | _ :: _ :: _, e => simp [lenD] at e

/-! ### ints -/
def absD : List D → Option (Fg × D)
  | [.int i] => some (.sh, .int (if i < 0 then -i else i))
  | _ => none
def max2D : List D → Option (Fg × D)
  | [.int i, .int j] => some (.sh, .int (if j > i then j else i))
  | _ => none
def min2D : List D → Option (Fg × D)
  | [.int i, .int j] => some (.sh, .int (if j < i then j else i))
  | _ => none
def gcdD : List D → Option (Fg × D)
  | [.int i, .int j] => some (.sh, .int ((Nat.gcd i.natAbs j.natAbs : Nat) : Int))
  | _ => none
def intD : List D → Option (Fg × D)
  | [.int i] => some (.sh, .int i)
  | [.bl k] => some (.sh, .int (if k then 1 else 0))
  | _ => none
theorem cs_int2 {bx : Bx} {g : Int → Int → Int} {o : List D → Option (Fg × D)} (ho : ∀ ds z, o ds = some z → ∃ i j, ds = [.int i, .int j] ∧ z = (.sh, .int (g i j))) : CallS bx (fun xs H Q => ∃ i j, xs = [.int i, .int j] ∧ Q (.int (g i j)) H) o := by
  intro ow H ls vs ds z Q b r e q
  obtain ⟨i, j, rfl, rfl⟩ := ho ds z e
  obtain ⟨v, u, rfl, r1, r2⟩ := r.two
  obtain rfl := r1.int
  obtain rfl := r2.int
  exact ⟨i, j, rfl, q _ _ (EPost.same b (.int _))⟩
theorem cs_max2 {bx : Bx} : CallS bx (fun xs H Q => ∃ i j, xs = [.int i, .int j] ∧ Q (.int (if j > i then j else i)) H) max2D := cs_int2 fun ds z e => by
  unfold max2D at e
  split at e <;> cases e
  exact ⟨_, _, rfl, rfl⟩
theorem cs_min2 {bx : Bx} : CallS bx (fun xs H Q => ∃ i j, xs = [.int i, .int j] ∧ Q (.int (if j < i then j else i)) H) min2D := cs_int2 fun ds z e => by
  unfold min2D at e
  split at e <;> cases e
  exact ⟨_, _, rfl, rfl⟩
theorem cs_gcd {bx : Bx} : CallS bx rGcd gcdD := cs_int2 (g := fun i j => ((Nat.gcd i.natAbs j.natAbs : Nat) : Int)) fun ds z e => by
  unfold gcdD at e
  split at e <;> cases e
  exact ⟨_, _, rfl, rfl⟩
theorem cs_abs {bx : Bx} : CallS bx (fun xs H Q => ∃ i, xs = [.int i] ∧ Q (.int (if i < 0 then -i else i)) H) absD := by
  intro ow H ls vs ds z Q b r e q
  unfold absD at e
  split at e
  · cases e
    obtain ⟨v, rfl, r1⟩ := r.one
    obtain rfl := r1.int
    exact ⟨_, rfl, q _ _ (EPost.same b (.int _))⟩
  · cases e
theorem cs_int {bx : Bx} : CallS bx (fun xs H Q => (∃ i, xs = [.int i] ∧ Q (.int i) H) ∨ ∃ k, xs = [.bl k] ∧ Q (.int (if k then 1 else 0)) H) intD := by
  intro ow H ls vs ds z Q b r e q
  unfold intD at e
  split at e
  · cases e
    obtain ⟨v, rfl, r1⟩ := r.one
    obtain rfl := r1.int
    exact .inl ⟨_, rfl, q _ _ (EPost.same b (.int _))⟩
  · cases e
    obtain ⟨v, rfl, r1⟩ := r.one
    obtain rfl := r1.bl
    exact .inr ⟨_, rfl, q _ _ (EPost.same b (.int _))⟩
  · cases e

/-! ### max, min, sorted of a list of ints -/
def intsD : List D → Option (List Int)
  | [] => some []
  | .int i :: r => (intsD r).map (i :: ·)
  | _ :: _ => none
theorem RDs.ints {K : PySem.W.Frag} {sa : Addr} {H : Hp} : ∀ {vs : List V} {ds : List D} {ns : List Int}, RDs K sa H vs ds → intsD ds = some ns → vs = ns.map V.int
  | _, _, _, .nil, e => by simp only [intsD] at e; cases e; rfl
  | _, _, _, .cons (d := d) a r, e => by
    cases d <;> simp only [intsD] at e <;> try (cases e; done)
    obtain ⟨ms, e1, rfl⟩ := Option.map_eq_some_iff.mp e
    cases a
    rw [r.ints e1]
    rfl
theorem RDs.of_ints {K : PySem.W.Frag} {sa : Addr} {H : Hp} : ∀ (ns : List Int), RDs K sa H (ns.map V.int) (ns.map D.int)
  | [] => .nil
  | n :: ns => .cons (.int n) (RDs.of_ints ns)
def maxI : List Int → Int
  | [] => 0
  | [a] => a
  | a :: r => max a (maxI r)
theorem maxI_spec : ∀ {ns : List Int}, ns ≠ [] → maxI ns ∈ ns ∧ ∀ y ∈ ns, y ≤ maxI ns
  | [], h => absurd rfl h
  | [a], _ => by simp [maxI]
  | a :: b :: r, _ => by
    obtain ⟨h1, h2⟩ := maxI_spec (ns := b :: r) (by simp)
    have e : maxI (a :: b :: r) = max a (maxI (b :: r)) := rfl
    rw [e]
    constructor
    · by_cases h : a ≤ maxI (b :: r)
      · rw [Int.max_eq_right h]; exact List.mem_cons_of_mem _ h1
      · rw [Int.max_eq_left (by omega)]; exact List.mem_cons_self
    · intro y hy
      rcases List.mem_cons.mp hy with rfl | hy
      · omega
      · have := h2 y hy; omega
def minI : List Int → Int
  | [] => 0
  | [a] => a
  | a :: r => min a (minI r)
theorem minI_spec : ∀ {ns : List Int}, ns ≠ [] → minI ns ∈ ns ∧ ∀ y ∈ ns, minI ns ≤ y
  | [], h => absurd rfl h
  | [a], _ => by simp [minI]
  | a :: b :: r, _ => by
    obtain ⟨h1, h2⟩ := minI_spec (ns := b :: r) (by simp)
    have e : minI (a :: b :: r) = min a (minI (b :: r)) := rfl
    rw [e]
    constructor
    · by_cases h : a ≤ minI (b :: r)
      · rw [Int.min_eq_left h]; exact List.mem_cons_self
      · rw [Int.min_eq_right (by omega)]; exact List.mem_cons_of_mem _ h1
    · intro y hy
      rcases List.mem_cons.mp hy with rfl | hy
      · omega
      · have := h2 y hy; omega
def insI (a : Int) : List Int → List Int
  | [] => [a]
  | b :: r => if a ≤ b then a :: b :: r else b :: insI a r
def sortI : List Int → List Int
  | [] => []
  | a :: r => insI a (sortI r)
theorem insI_perm (a : Int) : ∀ l : List Int, (insI a l).Perm (a :: l)
  | [] => .refl _
  | b :: r => by
    unfold insI
    split
    · exact .refl _
    · exact ((insI_perm a r).cons b).trans (.swap a b r)
theorem sortI_perm : ∀ l : List Int, (sortI l).Perm l
  | [] => .refl _
  | a :: r => (insI_perm a _).trans ((sortI_perm r).cons a)
theorem insI_sorted (a : Int) : ∀ {l : List Int}, l.Pairwise (· ≤ ·) → (insI a l).Pairwise (· ≤ ·)
  | [], _ => by simp [insI]
  | b :: r, h => by
    unfold insI
    obtain ⟨h1, h2⟩ := List.pairwise_cons.mp h
    split
    · rename_i hab
      refine List.pairwise_cons.mpr ⟨fun c hc => ?_, h⟩
      rcases List.mem_cons.mp hc with rfl | hc
      · exact hab
      · have := h1 c hc; omega
    · rename_i hab
      refine List.pairwise_cons.mpr ⟨fun c hc => ?_, insI_sorted a h2⟩
      rcases List.mem_cons.mp ((insI_perm a r).mem_iff.mp hc) with rfl | hc
      · omega
      · exact h1 c hc
theorem sortI_sorted : ∀ l : List Int, (sortI l).Pairwise (· ≤ ·)
  | [] => .nil
  | a :: r => insI_sorted a (sortI_sorted r)
theorem sorted_eq : ∀ {l m : List Int}, l.Perm m → l.Pairwise (· ≤ ·) → m.Pairwise (· ≤ ·) → l = m
  | [], m, p, _, _ => (List.nil_perm.mp p).symm
  | a :: l, [], p, _, _ => absurd (List.perm_nil.mp p) (by simp)
  | a :: l, b :: m, p, h1, h2 => by
    obtain ⟨a1, a2⟩ := List.pairwise_cons.mp h1
    obtain ⟨b1, b2⟩ := List.pairwise_cons.mp h2
    have e : a = b := by
      have m1 : a ∈ b :: m := p.mem_iff.mp List.mem_cons_self
      have m2 : b ∈ a :: l := p.mem_iff.mpr List.mem_cons_self
      rcases List.mem_cons.mp m1 with e | m1
      · exact e
      · rcases List.mem_cons.mp m2 with e | m2
        · exact e.symm
        · have := a1 b m2; have := b1 a m1; omega
    subst e
    rw [sorted_eq ((List.perm_cons a).mp p) a2 b2]
def maxLD : List D → Option (Fg × D)
  | [.lst ds] => (intsD ds).bind fun ns => if ns = [] then none else some (.sh, .int (maxI ns))
  | _ => none
def minLD : List D → Option (Fg × D)
  | [.lst ds] => (intsD ds).bind fun ns => if ns = [] then none else some (.sh, .int (minI ns))
  | _ => none
def sortedD : List D → Option (Fg × D)
  | [.lst ds] => (intsD ds).map fun ns => (.fr, .lst ((sortI ns).map .int))
  | _ => none
theorem cs_maxL {bx : Bx} : CallS bx (rMax bx.K) maxLD := by
  intro ow H ls vs ds z Q b r e q
  unfold maxLD at e
  split at e
  · obtain ⟨ns, e1, e2⟩ := Option.bind_eq_some_iff.mp e
    split at e2
    · cases e2
    · rename_i hn
      cases e2
      obtain ⟨v, rfl, r1⟩ := r.one
      obtain ⟨a, us, rfl, h1, r2⟩ := r1.lst
      obtain rfl := r2.ints e1
      obtain ⟨m1, m2⟩ := maxI_spec hn
      refine ⟨a, ns, rfl, SqL.of h1, List.length_pos_iff.mpr hn, fun m hm hb => ?_⟩
      have : m = maxI ns := Int.le_antisymm (m2 m hm) (hb _ m1)
      rw [this]
      exact q _ _ (EPost.same b (.int _))
  · cases e
theorem cs_minL {bx : Bx} : CallS bx (rMin bx.K) minLD := by
  intro ow H ls vs ds z Q b r e q
  unfold minLD at e
  split at e
  · obtain ⟨ns, e1, e2⟩ := Option.bind_eq_some_iff.mp e
    split at e2
    · cases e2
    · rename_i hn
      cases e2
      obtain ⟨v, rfl, r1⟩ := r.one
      obtain ⟨a, us, rfl, h1, r2⟩ := r1.lst
      obtain rfl := r2.ints e1
      obtain ⟨m1, m2⟩ := minI_spec hn
      refine ⟨a, ns, rfl, SqL.of h1, List.length_pos_iff.mpr hn, fun m hm hb => ?_⟩
      have : m = minI ns := Int.le_antisymm (hb _ m1) (m2 m hm)
      rw [this]
      exact q _ _ (EPost.same b (.int _))
  · cases e
theorem cs_sorted {bx : Bx} : CallS bx (rSortedI bx.K) sortedD := by
  intro ow H ls vs ds z Q b r e q
  unfold sortedD at e
  split at e
  · obtain ⟨ns, e1, rfl⟩ := Option.map_eq_some_iff.mp e
    obtain ⟨v, rfl, r1⟩ := r.one
    obtain ⟨a, us, rfl, h1, r2⟩ := r1.lst
    obtain rfl := r2.ints e1
    refine ⟨a, ns, rfl, SqL.of h1, fun ns' p hp hs hf => ?_⟩
    obtain rfl := sorted_eq (hp.trans (sortI_perm ns).symm) hs (sortI_sorted ns)
    exact q _ _ (EPost.lst b hf (RDs.of_ints _))
  · cases e

/-! ### list(..), tuple(..) -/
def kD : Key → D
  | .inl i => .int i
  | .inr x => .str x
def listD : List D → Option (Fg × D)
  | [.lst xs] => some (.fr, .lst xs)
  | [.tup xs] => some (.fr, .lst xs)
  | [.dk kvs] => some (.fr, .lst (kvs.map fun kv => kD kv.1))
  | [.scr ns] => some (.fr, .lst (ns.map .int))
  | _ => none
def tupleD : List D → Option (Fg × D)
  | [.lst xs] => some (.sh, .tup xs)
  | [.tup xs] => some (.sh, .tup xs)
  | _ => none
def rListB (K : PySem.W.Frag) : List V → Hp → VK → Prop := fun xs H Q => (∃ p ys, xs = [.ref p] ∧ (SqL K H p ys ∨ SqT K H p ys) ∧ ∀ l, H l = none → Q (.ref l) (upd H l (.lst ys))) ∨ rListD xs H Q
theorem cr_list {X : Cx} (hc : X.calm = true) : CallR X (.type "list") (rListB X.K) := call_list_of.or (call_list_dK hc)
theorem RDk.keys {K : PySem.W.Frag} {sa : Addr} {H : Hp} : ∀ {vs : List (Key × V)} {ds : List (Key × D)}, RDk K sa H vs ds → RDs K sa H (vs.map fun kv => kV kv.1) (ds.map fun kv => kD kv.1)
  | _, _, .nil => .nil
  | _, _, .cons (k := k) a r => .cons (by cases k <;> first | exact .int _ | exact .str _) r.keys
theorem cs_list {bx : Bx} : CallS bx (rListB bx.K) listD := by
  intro ow H ls vs ds z Q b r e q
  unfold listD at e
  split at e
  · cases e
    obtain ⟨v, rfl, r1⟩ := r.one
    obtain ⟨a, us, rfl, h1, r2⟩ := r1.lst
    exact .inl ⟨a, us, rfl, .inl (SqL.of h1), fun l hl => q _ _ (EPost.lst b hl r2)⟩
  · cases e
    obtain ⟨v, rfl, r1⟩ := r.one
    obtain ⟨_, a, us, rfl, h1, r2⟩ := r1.tup
    exact .inl ⟨a, us, rfl, .inr h1, fun l hl => q _ _ (EPost.lst b hl r2)⟩
  · cases e
    obtain ⟨v, rfl, r1⟩ := r.one
    obtain ⟨a, us, rfl, h1, r2⟩ := r1.dk
    exact .inr ⟨a, us, rfl, h1, fun l hl => q _ _ (EPost.lst b hl r2.keys)⟩
  · cases e
    obtain ⟨v, rfl, r1⟩ := r.one
    obtain ⟨a, rfl, h1⟩ := r1.scr
    exact .inl ⟨a, _, rfl, .inl h1, fun l hl => q _ _ (EPost.lst b hl (RDs.of_ints _))⟩
  · cases e
def rTupB (K : PySem.W.Frag) : List V → Hp → VK → Prop := fun xs H Q => ∃ p ys, xs = [.ref p] ∧ ((SqL K H p ys ∧ ∀ l, H l = none → Q (.ref l) (upd H l (.tup ys))) ∨ (SqT K H p ys ∧ Q (.ref p) H))
theorem cr_tuple {X : Cx} : CallR X (.type "tuple") (rTupB X.K) := call_tuple_of
theorem cs_tuple {bx : Bx} : CallS bx (rTupB bx.K) tupleD := by
  intro ow H ls vs ds z Q b r e q
  unfold tupleD at e
  split at e
  · cases e
    obtain ⟨v, rfl, r1⟩ := r.one
    obtain ⟨a, us, rfl, h1, r2⟩ := r1.lst
    exact ⟨a, us, rfl, .inl ⟨SqL.of h1, fun l hl => q _ _ (EPost.tup b hl r2)⟩⟩
  · cases e
    obtain ⟨v, rfl, r1⟩ := r.one
    obtain ⟨rr, a, us, rfl, h1, r2⟩ := r1.tup
    exact ⟨a, us, rfl, .inr ⟨h1, q _ _ (EPost.same b rr)⟩⟩
  · cases e

/-! ### isinstance -/
def tyN : D → Option String
  | .non => some "NoneType"
  | .bl _ => some "bool"
  | .int _ => some "int"
  | .str _ => some "str"
  | .tup _ => some "tuple"
  | .lst _ => some "list"
  | .dk _ => some "dict"
  | _ => none
def isiB (t n : String) : Option Bool :=
  if n = "int" then some (decide (t = "int") || decide (t = "bool"))
  else if n = "bool" then some (decide (t = "bool"))
  else if n = "tuple" then some (decide (t = "tuple"))
  else if n = "list" then some (decide (t = "list"))
  else if n = "str" then some (decide (t = "str"))
  else none
def isiD : List D → Option (Fg × D)
  | [x, .op (.ty n)] => (tyN x).bind fun t => (isiB t n).map fun k => (.sh, .bl k)
  | _ => none
theorem tyX_of {bx : Bx} {ow : List Addr} {H : Hp} {v : V} {d : D} {t : String} (r : RB bx ow H v d) (e : tyN d = some t) : TyX bx.K H v (.type t) := by
  have r := r.full
  cases r <;> simp only [tyN] at e <;> cases e
  · exact .base .non
  · exact .base (.bl _)
  · exact .base (.int _)
  · exact .base (.str _)
  · rename_i h _; exact .base (.lst h)
  · rename_i h _
    rcases h with (h | ⟨o, h⟩) | ⟨o, its, n, h1, h2, _⟩
    · exact .base (.tup h)
    · exact .fTuple h
    · exact .kTuple h1 h2
  · rename_i h _; exact .base (.dK h)
theorem isiB_kit {K : PySem.W.Frag} {d : D} {t n : String} {k : Bool} (e0 : tyN d = some t) (e : isiB t n = some k) : PySem.W.kitOne K (.type t) (.type n) = some k := by
  have ht : t = "NoneType" ∨ t = "bool" ∨ t = "int" ∨ t = "str" ∨ t = "tuple" ∨ t = "list" ∨ t = "dict" := by
    cases d <;> simp only [tyN] at e0 <;> cases e0 <;> simp
  have hn : n = "int" ∨ n = "bool" ∨ n = "tuple" ∨ n = "list" ∨ n = "str" := by
    unfold isiB at e
    split at e
    · simp_all
    split at e
    · simp_all
    split at e
    · simp_all
    split at e
    · simp_all
    split at e
    · simp_all
    · cases e
  refine kit_ty ?_
  rcases ht with rfl | rfl | rfl | rfl | rfl | rfl | rfl <;> rcases hn with rfl | rfl | rfl | rfl | rfl <;> (have e' := e.symm; revert e'; cases k <;> decide +kernel)
theorem cs_isi {bx : Bx} : CallS bx (rIsi bx.K) isiD := by
  intro ow H ls vs ds z Q b r e q
  unfold isiD at e
  split at e
  · rename_i d n
    obtain ⟨t, e1, e2⟩ := Option.bind_eq_some_iff.mp e
    obtain ⟨k, e3, rfl⟩ := Option.map_eq_some_iff.mp e2
    obtain ⟨v, u, rfl, r1, r2⟩ := r.two
    obtain rfl := r2.op
    exact ⟨v, _, .type t, .type n, k, rfl, .ty n, tyX_of r1 e1, isiB_kit e1 e3, q _ _ (EPost.same b (.bl _))⟩
  · cases e
end BL
end

section
set_option Elab.async false
set_option linter.all false
set_option maxRecDepth 100000
set_option maxHeartbeats 4000000
namespace BL
open PySem PySem.Spec PyProof.Rows L2

/-! ### the environment changes -/
theorem mn_congr {O : Addr → Bool} {ow : List Addr} {H : Hp} {p : Addr} {o : HO} (m : p ∈ ow) : Same (mn O ow H) (mn O ow (upd H p o)) := fun a u e => by
  obtain ⟨h1, h2, h3⟩ := mn_some e
  exact mn_of ((upd_ne (show a ≠ p from fun z => h3 (by rw [z]; exact m))).trans h1) h2 h3
theorem gset {α : Type} {l : List α} {i j : Nat} {x y : α} (h : (l.set i x)[j]? = some y) : (i = j ∧ x = y ∧ i < l.length) ∨ (i ≠ j ∧ l[j]? = some y) := by
  by_cases e : i = j
  · subst e
    rw [List.getElem?_set] at h
    by_cases hl : i < l.length
    · simp [hl] at h; exact .inl ⟨rfl, h, hl⟩
    · simp [hl] at h
  · rw [List.getElem?_set_ne e] at h
    exact .inr ⟨e, h⟩
section
variable {bx : Bx} {ow : List Addr} {tmp : List Hp} {ρ : Env1} {σ : Sg} {H H' : Hp} {ls ls' : LS}
theorem Rel.drop (R : Rel bx ow tmp ρ σ H ls) : Rel bx ow [] ρ σ H ls := { R with tm := fun _ h => nomatch h }
theorem Rel.tail {S : Hp} (R : Rel bx ow (S :: tmp) ρ σ H ls) : Rel bx ow tmp ρ σ H ls := { R with tm := fun h m => R.tm h (List.mem_cons_of_mem _ m) }
theorem Rel.pin (R : Rel bx ow tmp ρ σ H ls) : Rel bx ow (mn bx.O ow H :: tmp) ρ σ H ls := { R with tm := fun h m => (List.mem_cons.mp m).elim (fun z => z ▸ Same.refl _) fun m => R.tm h m }
theorem Bas.notS (b : Bas bx ow H ls) {p : Addr} (m : p ∈ ow) : bx.S p = false := by
  have h := (b.fr p m).2.1
  cases e : bx.S p with
  | false => rfl
  | true => rw [b.sO p e] at h; cases h
theorem Rel.set (R : Rel bx ow tmp ρ σ H ls) (i : Nat) {v : V} {d : D} (r : RD bx.K bx.sa (mn bx.O ow H) v d) : Rel bx ow tmp (ρ.set i (some (false, d))) (σ.set i (some v)) H ls where
  toBas := R.toBas
  len := by rw [List.length_set, List.length_set, R.len]
  sh := fun j e h => by
    rcases gset h with ⟨rfl, h1, h2⟩ | ⟨h1, h2⟩
    · cases h1
      exact ⟨v, by rw [List.getElem?_set_self (by rw [← R.len]; exact h2)], r⟩
    · obtain ⟨u, h3, h4⟩ := R.sh j e h2
      exact ⟨u, by rw [List.getElem?_set_ne h1]; exact h3, h4⟩
  own := fun j e h => by
    rcases gset h with ⟨rfl, h1, h2⟩ | ⟨h1, h2⟩
    · cases h1
    · obtain ⟨u, h3, h4, h5⟩ := R.own j e h2
      exact ⟨u, h3, by rw [List.getElem?_set_ne h1]; exact h4, h5⟩
  inj := fun j k d1 d2 p h1 h2 h3 h4 => by
    rcases gset h1 with ⟨rfl, z, _⟩ | ⟨n1, g1⟩
    · cases z
    rcases gset h2 with ⟨rfl, z, _⟩ | ⟨n2, g2⟩
    · cases z
    rw [List.getElem?_set_ne n1] at h3
    rw [List.getElem?_set_ne n2] at h4
    exact R.inj j k d1 d2 p g1 g2 h3 h4
  tm := R.tm
/-- a new thing is hidden -/
theorem kept_new {p : Addr} (k : Kept bx H H') (b : Bas bx ow H ls) (hp : H p = none) : Same (mn bx.O ow H) (mn bx.O (p :: ow) H') := fun a o h => by
  obtain ⟨h1, h2, h3⟩ := mn_some h
  refine mn_of (k a o h1 ?_) h2 fun z => ?_
  · cases e : bx.S a with
    | false => rfl
    | true => rw [b.sO a e] at h2; cases h2
  · rcases List.mem_cons.mp z with z | z
    · subst z; rw [hp] at h1; cases h1
    · exact h3 z
theorem Rel.grow (R : Rel bx ow tmp ρ σ H ls) (k : Kept bx H H') (l : LSR bx H' ls') {p : Addr} (hp : H p = none) (hp' : H' p ≠ none) : Rel bx (p :: ow) tmp ρ σ H' ls' := by
  have b' := R.toBas.after k l
  obtain ⟨q1, q2, q3, q4⟩ := R.dom hp
  have sm := kept_new k R.toBas hp
  refine ⟨⟨fun a m => ?_, b'.kept, b'.sO, b'.oD, b'.cO, b'.lsr⟩, R.len, fun i d h => ?_, fun i d h => ?_, R.inj, fun h m => (R.tm h m).trans sm⟩
  · rcases List.mem_cons.mp m with rfl | m
    · exact ⟨q4, q1, hp'⟩
    · exact b'.fr a m
  · obtain ⟨v, h1, h2⟩ := R.sh i d h
    exact ⟨v, h1, h2.mono sm⟩
  · obtain ⟨a, h1, h2, h3⟩ := R.own i d h
    refine ⟨a, List.mem_cons_of_mem _ h1, h2, ?_⟩
    have hS := R.notS h1
    cases d with
    | lst ds => obtain ⟨vs, h4, h5⟩ := h3; exact ⟨vs, k a _ h4 hS, h5.mono sm⟩
    | dk ds => obtain ⟨vs, h4, h5⟩ := h3; exact ⟨vs, k a _ h4 hS, h5.mono sm⟩
    | _ => exact h3.elim
/-- slot i takes the hidden thing at p, that no slot names -/
theorem Rel.setOwn (R : Rel bx ow tmp ρ σ H ls) (i : Nat) {p : Addr} {d : D} (m : p ∈ ow) (hn : ∀ j e, ρ[j]? = some (some (true, e)) → σ[j]? = some (some (.ref p)) → j = i) (t : Top bx ow H p d) :
    Rel bx ow tmp (ρ.set i (some (true, d))) (σ.set i (some (.ref p))) H ls where
  toBas := R.toBas
  len := by rw [List.length_set, List.length_set, R.len]
  sh := fun j e h => by
    rcases gset h with ⟨rfl, h1, h2⟩ | ⟨h1, h2⟩
    · cases h1
    · obtain ⟨u, h3, h4⟩ := R.sh j e h2
      exact ⟨u, by rw [List.getElem?_set_ne h1]; exact h3, h4⟩
  own := fun j e h => by
    rcases gset h with ⟨rfl, h1, h2⟩ | ⟨h1, h2⟩
    · cases h1
      exact ⟨p, m, by rw [List.getElem?_set_self (by rw [← R.len]; exact h2)], t⟩
    · obtain ⟨u, h3, h4, h5⟩ := R.own j e h2
      exact ⟨u, h3, by rw [List.getElem?_set_ne h1]; exact h4, h5⟩
  inj := fun j k d1 d2 q h1 h2 h3 h4 => by
    rcases gset h1 with ⟨rfl, z1, l1⟩ | ⟨n1, g1⟩
    · rw [List.getElem?_set_self (by rw [← R.len]; exact l1)] at h3
      cases h3
      rcases gset h2 with ⟨rfl, _, _⟩ | ⟨n2, g2⟩
      · rfl
      · rw [List.getElem?_set_ne n2] at h4
        exact (hn k d2 g2 h4).symm
    · rw [List.getElem?_set_ne n1] at h3
      rcases gset h2 with ⟨rfl, z2, l2⟩ | ⟨n2, g2⟩
      · rw [List.getElem?_set_self (by rw [← R.len]; exact l2)] at h4
        cases h4
        exact hn j d1 g1 h3
      · rw [List.getElem?_set_ne n2] at h4
        exact R.inj j k d1 d2 q g1 g2 h3 h4
  tm := R.tm
theorem EPost.at {v : V} {d : D} (P : EPost bx ow H v H' .fr d ls') : ∃ p, v = .ref p ∧ H p = none ∧ Top bx (p :: ow) H' p d ∧ H' p ≠ none := by
  obtain ⟨p, h1, h2, h3⟩ := P.val
  refine ⟨p, h1, h2, h3, ?_⟩
  cases d with
  | lst ds => obtain ⟨vs, h4, h5⟩ := h3; rw [h4]; simp
  | dk ds => obtain ⟨vs, h4, h5⟩ := h3; rw [h4]; simp
  | _ => exact h3.elim
/-- name = value: what is new is one's own -/
theorem Rel.store (R : Rel bx ow tmp ρ σ H ls) (i : Nat) {v : V} {fr : Fg} {d : D} (P : EPost bx ow H v H' fr d ls') (nb : fr ≠ .bo) :
    ∃ ow', Rel bx ow' tmp (ρ.set i (some (decide (fr = .fr), d))) (σ.set i (some v)) H' ls' := by
  cases fr with
  | bo => exact absurd rfl nb
  | sh => exact ⟨ow, (R.after P.kept P.lsr).set i (P.rd R.toBas nb)⟩
  | fr =>
    obtain ⟨p, rfl, h2, h3, h4⟩ := P.at
    have R2 := R.grow P.kept P.lsr h2 h4
    refine ⟨p :: ow, R2.setOwn i List.mem_cons_self (fun j e h1 h5 => ?_) h3⟩
    obtain ⟨q, m, h6, h7⟩ := R.own j e h1
    rw [h5] at h6
    cases h6
    exact absurd h2 (R.fr _ m).2.2
/-- what is one's own is changed -/
theorem Rel.change (R : Rel bx ow tmp ρ σ H ls) {i : Nat} {d d' : D} {p : Addr} {o : HO} (e : ρ[i]? = some (some (true, d))) (hp : σ[i]? = some (some (.ref p))) (m : p ∈ ow) (t : Top bx ow (upd H p o) p d') :
    Rel bx ow tmp (ρ.set i (some (true, d'))) σ (upd H p o) ls := by
  have hS := R.notS m
  have hl : i < ρ.length := by
    rcases Nat.lt_or_ge i ρ.length with h | h
    · exact h
    · rw [List.getElem?_eq_none_iff.mpr h] at e; cases e
  have sm : Same (mn bx.O ow H) (mn bx.O ow (upd H p o)) := mn_congr m
  refine ⟨⟨fun a ma => ?_, ?_, R.sO, R.oD, R.cO, ?_⟩, by rw [List.length_set, R.len], fun j e' h => ?_, fun j e' h => ?_, fun j k d1 d2 q h1 h2 h3 h4 => ?_, fun h mh => (R.tm h mh).trans sm⟩
  · obtain ⟨h1, h2, h3⟩ := R.fr a ma
    refine ⟨h1, h2, ?_⟩
    by_cases ea : a = p
    · subst ea; rw [upd_same]; simp
    · rw [upd_ne ea]; exact h3
  · intro a u h1 h2
    have ea : a ≠ p := fun z => by
      subst z
      rw [(R.fr a m).1] at h1; cases h1
    rw [upd_ne ea]
    exact R.kept a u h1 h2
  · have l := R.lsr
    have hO := (R.fr p m).2.1
    have hne : ∀ a u, H a = some u → bx.H0 a ≠ none ∨ bx.S a = true → a ≠ p := fun a u h1 h2 z => by
      subst z
      rcases h2 with h2 | h2
      · exact h2 (R.fr a m).1
      · rw [hS] at h2; cases h2
    unfold LSR at l ⊢
    split
    · rename_i es; rw [es] at l; exact l
    · rename_i ca la es
      rw [es] at l
      obtain ⟨a0, a1, a2, a3, a4, a5, a6, a7, a8, a9, a10⟩ := l
      have s1 : bx.S bx.sa = true := by unfold Bx.S; rw [es]; simp
      have s2 : bx.S la = true := by unfold Bx.S; rw [es]; simp
      have hca : ca ≠ p := hne _ _ a9 (.inl (R.oD _ (R.cO ca la es)))
      refine ⟨a0, a1, a2, a3, a4, a5, a6, a7, ?_, ?_, ?_⟩
      · rw [upd_ne (hne _ _ a8 (.inr s1))]; exact a8
      · rw [upd_ne hca]; exact a9
      · rw [upd_ne (hne _ _ a10 (.inr s2))]; exact a10
  · rcases gset h with ⟨rfl, h1, h2⟩ | ⟨h1, h2⟩
    · cases h1
    · obtain ⟨u, h3, h4⟩ := R.sh j e' h2
      exact ⟨u, h3, h4.mono sm⟩
  · rcases gset h with ⟨rfl, h1, h2⟩ | ⟨h1, h2⟩
    · cases h1
      exact ⟨p, m, hp, t⟩
    · obtain ⟨q, h3, h4, h5⟩ := R.own j e' h2
      refine ⟨q, h3, h4, ?_⟩
      have hq : q ≠ p := fun z => by
        subst z
        exact h1 (R.inj i j d e' q e h2 hp h4)
      cases e' with
      | lst ds => obtain ⟨vs, g1, g2⟩ := h5; exact ⟨vs, by rw [upd_ne hq]; exact g1, g2.mono sm⟩
      | dk ds => obtain ⟨vs, g1, g2⟩ := h5; exact ⟨vs, by rw [upd_ne hq]; exact g1, g2.mono sm⟩
      | _ => exact h5.elim
  · have g : ∀ j d1, (ρ.set i (some (true, d')))[j]? = some (some (true, d1)) → ∃ d2, ρ[j]? = some (some (true, d2)) := fun j d1 h => by
      rcases gset h with ⟨rfl, _, _⟩ | ⟨_, h2⟩
      · exact ⟨d, e⟩
      · exact ⟨d1, h2⟩
    obtain ⟨e1, g1⟩ := g j d1 h1
    obtain ⟨e2, g2⟩ := g k d2 h2
    exact R.inj j k e1 e2 q g1 g2 h3 h4
/-- one's own becomes everybody's -/
theorem Rel.un (R : Rel bx ow tmp ρ σ H ls) {i : Nat} {d : D} (e : ρ[i]? = some (some (true, d))) : ∃ ow', Rel bx ow' tmp (ρ.set i (some (false, d))) σ H ls := by
  obtain ⟨p, m, hp, t⟩ := R.own i d e
  refine ⟨ow.filter fun q => decide (q ≠ p), ?_⟩
  have sub : ∀ q ∈ ow.filter (fun q => decide (q ≠ p)), q ∈ ow := fun q h => (List.mem_filter.mp h).1
  have pn : p ∉ ow.filter (fun q => decide (q ≠ p)) := fun h => by simpa using (List.mem_filter.mp h).2
  have sm : Same (mn bx.O ow H) (mn bx.O (ow.filter fun q => decide (q ≠ p)) H) := mn_sub sub
  refine ⟨⟨fun a ma => R.fr a (sub a ma), R.kept, R.sO, R.oD, R.cO, R.lsr⟩, by rw [List.length_set, R.len], fun j e' h => ?_, fun j e' h => ?_, fun j k d1 d2 q h1 h2 h3 h4 => ?_, fun h mh => (R.tm h mh).trans sm⟩
  · rcases gset h with ⟨rfl, h1, h2⟩ | ⟨h1, h2⟩
    · cases h1
      refine ⟨_, hp, ?_⟩
      cases d with
      | lst ds => obtain ⟨vs, g1, g2⟩ := t; exact .lst (mn_of g1 (R.fr p m).2.1 pn) (g2.mono sm)
      | dk ds => obtain ⟨vs, g1, g2⟩ := t; exact .dk (mn_of g1 (R.fr p m).2.1 pn) (g2.mono sm)
      | _ => exact t.elim
    · obtain ⟨u, h3, h4⟩ := R.sh j e' h2
      exact ⟨u, h3, h4.mono sm⟩
  · rcases gset h with ⟨rfl, h1, h2⟩ | ⟨h1, h2⟩
    · cases h1
    · obtain ⟨q, h3, h4, h5⟩ := R.own j e' h2
      have hq : q ≠ p := fun z => by
        subst z
        exact h1 (R.inj i j d e' q e h2 hp h4)
      refine ⟨q, List.mem_filter.mpr ⟨h3, by simpa using hq⟩, h4, ?_⟩
      cases e' with
      | lst ds => obtain ⟨vs, g1, g2⟩ := h5; exact ⟨vs, g1, g2.mono sm⟩
      | dk ds => obtain ⟨vs, g1, g2⟩ := h5; exact ⟨vs, g1, g2.mono sm⟩
      | _ => exact h5.elim
  · rcases gset h1 with ⟨rfl, z1, l1⟩ | ⟨n1, g1⟩
    · cases z1
    rcases gset h2 with ⟨rfl, z2, l2⟩ | ⟨n2, g2⟩
    · cases z2
    exact R.inj j k d1 d2 q g1 g2 h3 h4
end
end BL
end

section
set_option Elab.async false
set_option linter.all false
set_option maxRecDepth 100000
set_option maxHeartbeats 4000000
namespace BL
open PySem PySem.Spec PyProof.Rows L2

theorem mn_nil {O : Addr → Bool} {ow : List Addr} {H : Hp} : Same (mn O ow H) (mn O [] H) := mn_sub fun q m => absurd m (by simp)
/-- how a statement ends -/
inductive Oc where
  | nx (ρ : Env1) | rt (z : Fg × D) | bk (ρ : Env1) | ct (ρ : Env1) | rz (ρ : Env1) (e : Exn)
abbrev SM := Env1 → LS → Res Oc
def RPost (bx : Bx) (v : V) (H' : Hp) (fg : Fg) (d : D) (ls' : LS) : Prop := Kept bx bx.H0 H' ∧ LSR bx H' ls' ∧ match fg with
  | .fr => ∃ p, v = .ref p ∧ bx.H0 p = none ∧ bx.O p = false ∧ Top bx [p] H' p d
  | .sh => RD bx.K bx.sa (mn bx.O [] H') v d
  | .bo => False
def RunS (bx : Bx) (W : WX) (tmp : List Hp) (D : Ends) (r : Res Oc) : Prop := match r with
  | .bad => False
  | .ex _ _ => False
  | .ok (.nx ρ') ls' => ∀ ow' σ' H', Rel bx ow' tmp ρ' σ' H' ls' → D.nx σ' H'
  | .ok (.bk ρ') ls' => ∀ ow' σ' H', Rel bx ow' tmp ρ' σ' H' ls' → D.bk σ' H'
  | .ok (.ct ρ') ls' => ∀ ow' σ' H', Rel bx ow' tmp ρ' σ' H' ls' → D.ct σ' H'
  | .ok (.rt z) ls' => ∀ v H', RPost bx v H' z.1 z.2 ls' → D.rt v H'
  | .ok (.rz ρ' e) ls' => ∀ ow' σ' H' cls dd, Rel bx ow' tmp ρ' σ' H' ls' → ExR bx (mn bx.O ow' H') e cls dd → W cls dd σ' H'
def sB (bx : Bx) (W : WX) (m : SM) : TS := fun D σ H => ∃ ow tmp ρ ls, Rel bx ow tmp ρ σ H ls ∧ RunS bx W tmp D (m ρ ls)
def stE {α : Type} (r : Res α) (ρ : Env1) (k : α → LS → Res Oc) : Res Oc := match r with
  | .bad => .bad
  | .ok a ls' => k a ls'
  | .ex e ls' => .ok (.rz ρ e) ls'
section
variable {bx : Bx} {W : WX} {D : Ends} {ow : List Addr} {tmp : List Hp} {ρ : Env1} {σ : Sg} {H H' : Hp} {ls ls' : LS}
theorem ex_of (R : Rel bx ow tmp ρ σ H ls) {e : Exn} {ls1 : LS} (h : RunS bx W tmp D (.ok (.rz ρ e) ls1)) : ∀ cls dd H', XPost bx ow H e cls dd H' ls1 → W cls dd σ H' :=
  fun cls dd H' P => h ow σ H' cls dd (R.after P.kept P.lsr) P.ex
theorem RunS.first {r : Res (Fg × BL.D)} {k : Fg × BL.D → LS → Res Oc} {Q' : VK} (h : RunS bx W tmp D (stE r ρ k)) (R : Rel bx ow tmp ρ σ H ls)
    (hk : ∀ v H1 z ls1, EPost bx ow H v H1 z.1 z.2 ls1 → RunS bx W tmp D (k z ls1) → Q' v H1) : RunE bx W ow σ H r Q' := by
  cases r with
  | bad => exact h
  | ok z ls1 => exact fun v H1 P => hk v H1 z ls1 P h
  | ex x ls1 => exact ex_of R h
theorem RunS.args {r : Res (List BL.D)} {k : List BL.D → LS → Res Oc} {Q' : List V → Hp → Prop} (h : RunS bx W tmp D (stE r ρ k)) (R : Rel bx ow tmp ρ σ H ls)
    (hk : ∀ vs H1 ds ls1, Kept bx H H1 → RDs bx.K bx.sa (mn bx.O ow H1) vs ds → Rel bx ow tmp ρ σ H1 ls1 → RunS bx W tmp D (k ds ls1) → Q' vs H1) : RunA bx W ow σ H r Q' := by
  cases r with
  | bad => exact h
  | ok z ls1 => exact fun v H1 kk l r => hk v H1 z ls1 kk r (R.after kk l) h
  | ex x ls1 => exact ex_of R h
theorem RunS.test {r : Res Bool} {k : Bool → LS → Res Oc} {Q' : Bool → Hp → Prop} (h : RunS bx W tmp D (stE r ρ k)) (R : Rel bx ow tmp ρ σ H ls)
    (hk : ∀ b H1 ls1, Rel bx ow tmp ρ σ H1 ls1 → RunS bx W tmp D (k b ls1) → Q' b H1) : RunT bx W ow σ H r Q' := by
  cases r with
  | bad => exact h
  | ok z ls1 => exact fun H1 kk l => hk z H1 ls1 (R.after kk l) h
  | ex x ls1 => exact ex_of R h
theorem RunS.ends {D' : Ends} {r : Res Oc} (h : RunS bx W tmp D r) (h1 : D.nx = D'.nx) (h2 : D.rt = D'.rt) (h3 : D.bk = D'.bk) (h4 : D.ct = D'.ct) : RunS bx W tmp D' r := by
  cases D; cases D'; cases h1; cases h2; cases h3; cases h4; exact h
end

/-! ### simple statements -/
def sNext : SM := fun ρ ls => .ok (.nx ρ) ls
def sBreak : SM := fun ρ ls => .ok (.bk ρ) ls
def sCont : SM := fun ρ ls => .ok (.ct ρ) ls
def sSeq (m n : SM) : SM := fun ρ ls => match m ρ ls with
  | .ok (.nx ρ') ls' => n ρ' ls'
  | r => r
def sRet (f : Env1 → M (Fg × D)) : SM := fun ρ ls => stE (f ρ ls) ρ fun z ls' => if z.1 = .bo then .bad else .ok (.rt z) ls'
def sRetV (i : Nat) : SM := fun ρ ls => match ρ[i]? with
  | some (some (true, d)) => .ok (.rt (.fr, d)) ls
  | some (some (false, d)) => .ok (.rt (.sh, d)) ls
  | _ => .bad
def sRetN : SM := fun _ ls => .ok (.rt (.sh, .non)) ls
def sExpr (f : Env1 → M (Fg × D)) : SM := fun ρ ls => stE (f ρ ls) ρ fun _ ls' => .ok (.nx ρ) ls'
def sIf (c : Env1 → M Bool) (m n : SM) : SM := fun ρ ls => stE (c ρ ls) ρ fun b ls' => if b = true then m ρ ls' else n ρ ls'
def sSet (i : Nat) (f : Env1 → M (Fg × D)) : SM := fun ρ ls => stE (f ρ ls) ρ fun z ls' => if z.1 = .bo then .bad else .ok (.nx (ρ.set i (some (decide (z.1 = .fr), z.2)))) ls'
def unEnv (i : Nat) (ρ : Env1) : Env1 := match ρ[i]? with
  | some (some (true, d)) => ρ.set i (some (false, d))
  | _ => ρ
def sUn (i : Nat) (m : SM) : SM := fun ρ ls => m (unEnv i ρ) ls
def sBad : SM := fun _ _ => .bad
section
variable {X : Cx} {bx : Bx} {W : WX} {a b c e : Expr} {f g : Env1 → M (Fg × D)} {tc : Env1 → M Bool} {m n : SM} {pos : Pos} {st : Stmt} {sts : List Stmt}
theorem bs_bad : PS X st (sB bx W sBad) := PS.imp ps_never fun D σ H h => by
  obtain ⟨ow, tmp, ρ, ls, R, h⟩ := h
  exact h
theorem bss_bad : PSs X sts (sB bx W sBad) := PSs.imp pss_never fun D σ H h => by
  obtain ⟨ow, tmp, ρ, ls, R, h⟩ := h
  exact h
theorem bss_nil : PSs X [] (sB bx W sNext) := PSs.imp pss_nil fun D σ H h => by
  obtain ⟨ow, tmp, ρ, ls, R, h⟩ := h
  exact h ow σ H R
theorem bss_one (h : PS X st (sB bx W m)) : PSs X [st] (sB bx W m) := pss_one h
theorem bss_cons (h1 : PS X st (sB bx W m)) (h2 : PSs X sts (sB bx W n)) : PSs X (st :: sts) (sB bx W (sSeq m n)) :=
  PSs.imp (pss_cons h1 h2) fun D σ H h => by
    obtain ⟨ow, tmp, ρ, ls, R, h⟩ := h
    refine ⟨ow, tmp, ρ, ls, R, ?_⟩
    have h : RunS bx W tmp D (sSeq m n ρ ls) := h
    unfold sSeq at h
    cases e : m ρ ls with
    | bad => rw [e] at h; exact h
    | ex x l => rw [e] at h; exact h
    | ok o l =>
      rw [e] at h
      cases o with
      | nx ρ' => exact fun ow' σ' H' R' => ⟨ow', tmp, ρ', l, R', h⟩
      | rt z => exact h
      | bk ρ' => exact h
      | ct ρ' => exact h
      | rz ρ' x => exact h
theorem bs_pass : PS X (.Pass pos) (sB bx W sNext) := PS.imp ps_pass fun D σ H h => by
  obtain ⟨ow, tmp, ρ, ls, R, h⟩ := h
  exact h ow σ H R
theorem bs_break : PS X (.Break pos) (sB bx W sBreak) := PS.imp ps_break fun D σ H h => by
  obtain ⟨ow, tmp, ρ, ls, R, h⟩ := h
  exact h ow σ H R
theorem bs_cont : PS X (.Continue pos) (sB bx W sCont) := PS.imp ps_continue fun D σ H h => by
  obtain ⟨ow, tmp, ρ, ls, R, h⟩ := h
  exact h ow σ H R
theorem bs_expr (h : PE X e (tB bx W f)) (hs : swapsWith e none pos.line X.env = pure false := by rfl) : PS X (.Expr e pos) (sB bx W (sExpr f)) := PS.imp (ps_expr h hs) fun D σ H h => by
  obtain ⟨ow, tmp, ρ, ls, R, h⟩ := h
  exact ⟨ow, tmp, ρ, ls, R, RunS.first h R fun v H1 z ls1 P q => q ow σ H1 (R.after P.kept P.lsr)⟩
theorem RPost.of {ow : List Addr} {tmp : List Hp} {ρ : Env1} {σ : Sg} {H H' : Hp} {ls ls' : LS} {v : V} {fg : Fg} {d : D} (R : Rel bx ow tmp ρ σ H ls) (P : EPost bx ow H v H' fg d ls') (nb : fg ≠ .bo) : RPost bx v H' fg d ls' := by
  refine ⟨R.kept.trans P.kept, P.lsr, ?_⟩
  cases fg with
  | bo => exact absurd rfl nb
  | sh => exact (P.rd R.toBas nb).mono mn_nil
  | fr =>
    obtain ⟨p, h1, h2, h3, _⟩ := P.at
    obtain ⟨q1, q2, q3, q4⟩ := R.dom h2
    refine ⟨p, h1, q4, q1, ?_⟩
    have sm : Same (mn bx.O (p :: ow) H') (mn bx.O [p] H') := mn_sub fun q m => by
      rcases List.mem_cons.mp m with rfl | m
      · exact List.mem_cons_self
      · cases m
    cases d with
    | lst ds => obtain ⟨vs, g1, g2⟩ := h3; exact ⟨vs, g1, g2.mono sm⟩
    | dk ds => obtain ⟨vs, g1, g2⟩ := h3; exact ⟨vs, g1, g2.mono sm⟩
    | _ => exact h3.elim
theorem bs_ret (h : PE X e (tB bx W f)) : PS X (.Return (some e) pos) (sB bx W (sRet f)) := PS.imp (ps_ret h) fun D σ H h => by
  obtain ⟨ow, tmp, ρ, ls, R, h⟩ := h
  refine ⟨ow, tmp, ρ, ls, R, RunS.first h R fun v H1 z ls1 P q => ?_⟩
  by_cases hb : z.1 = .bo
  · rw [if_pos hb] at q; exact (show False from q).elim
  · rw [if_neg hb] at q
    exact q v H1 (RPost.of R P hb)
theorem bs_retV {i : Nat} {x : Str} {p2 : Pos} (hN : X.N[i]? = some x := by rfl) (hv : Vis X.env.scope x := by first | exact Or.inl rfl | exact Or.inr (Or.inl rfl) | exact Or.inr (Or.inr rfl))
    (hd : (x == ("__debug__" : Str)) = false := by decide) (hcd : (x == ("__classdict__" : Str)) = false := by decide) : PS X (.Return (some (.Name x p2)) pos) (sB bx W (sRetV i)) := PS.imp (ps_ret (pe_var hN hv hd hcd)) fun D σ H h => by
  obtain ⟨ow, tmp, ρ, ls, R, h⟩ := h
  have h : RunS bx W tmp D (sRetV i ρ ls) := h
  unfold sRetV at h
  cases e : ρ[i]? with
  | none => rw [e] at h; exact (show False from h).elim
  | some o =>
    rw [e] at h
    cases o with
    | none => exact (show False from h).elim
    | some z =>
      obtain ⟨z1, d⟩ := z
      cases z1 with
      | true =>
        obtain ⟨p, h1, h2, h3⟩ := R.own i d e
        obtain ⟨f1, f2, f3⟩ := R.fr p h1
        refine ⟨.ref p, h2, h _ H ⟨R.kept, R.lsr, p, rfl, f1, f2, ?_⟩⟩
        have sm : Same (mn bx.O ow H) (mn bx.O [p] H) := mn_sub fun q m => by
          rcases List.mem_cons.mp m with rfl | m
          · exact h1
          · cases m
        cases d with
        | lst ds => obtain ⟨vs, g1, g2⟩ := h3; exact ⟨vs, g1, g2.mono sm⟩
        | dk ds => obtain ⟨vs, g1, g2⟩ := h3; exact ⟨vs, g1, g2.mono sm⟩
        | _ => exact h3.elim
      | false =>
        obtain ⟨v, h1, h2⟩ := R.sh i d e
        exact ⟨v, h1, h v H ⟨R.kept, R.lsr, h2.mono mn_nil⟩⟩
theorem bs_retN : PS X (.Return none pos) (sB bx W sRetN) := PS.imp ps_retN fun D σ H h => by
  obtain ⟨ow, tmp, ρ, ls, R, h⟩ := h
  exact h .non H ⟨R.kept, R.lsr, .non⟩
theorem bs_if {p q : List Stmt} (hc : PT X c (tT bx W tc)) (h1 : PSs X p (sB bx W m)) (h2 : PSs X q (sB bx W n)) : PS X (.If c p q pos) (sB bx W (sIf tc m n)) := PS.imp (ps_if hc h1 h2) fun D σ H h => by
  obtain ⟨ow, tmp, ρ, ls, R, h⟩ := h
  refine ⟨ow, tmp, ρ, ls, R, RunS.test h R fun b H1 ls1 R1 q => ?_⟩
  cases b with
  | true => rw [if_pos rfl]; exact ⟨ow, tmp, ρ, ls1, R1, q⟩
  | false => rw [if_neg (by decide)]; exact ⟨ow, tmp, ρ, ls1, R1, q⟩
theorem bs_set {i : Nat} {te : TE} (h : PS X st (tAsg te (gName i))) (hi : ∀ σ H Q, tB bx W f σ H Q → te σ H Q) : PS X st (sB bx W (sSet i f)) := PS.imp h fun D σ H h => by
  obtain ⟨ow, tmp, ρ, ls, R, h⟩ := h
  refine hi σ H _ ⟨ow, tmp, ρ, ls, R, RunS.first h R fun v H1 z ls1 P q => ?_⟩
  by_cases hb : z.1 = .bo
  · rw [if_pos hb] at q; exact (show False from q).elim
  · rw [if_neg hb] at q
    obtain ⟨ow', R'⟩ := R.store i P hb
    exact q ow' _ H1 R'
theorem bs_un {i : Nat} (h : PS X st (sB bx W m)) : PS X st (sB bx W (sUn i m)) := PS.imp h fun D σ H h => by
  obtain ⟨ow, tmp, ρ, ls, R, h⟩ := h
  have h : RunS bx W tmp D (m (unEnv i ρ) ls) := h
  unfold unEnv at h
  split at h
  · rename_i d e
    obtain ⟨ow', R'⟩ := R.un e
    exact ⟨ow', tmp, _, ls, R', h⟩
  · exact ⟨ow, tmp, ρ, ls, R, h⟩
end

/-! ### targets that are tuples of names -/
def setAll : Env1 → List Nat → List D → Env1
  | ρ, i :: is, d :: ds => setAll (ρ.set i (some (false, d))) is ds
  | ρ, _, _ => ρ
def gNs : List Nat → TGs
  | [] => gNil
  | i :: is => gCons (gName i) (gNs is)
def sTup (is : List Nat) (f : Env1 → M (Fg × D)) : SM := fun ρ ls => stE (f ρ ls) ρ fun z ls' => match z.2 with
  | .tup ds => if ds.length = is.length then .ok (.nx (setAll ρ is ds)) ls' else .bad
  | _ => .bad
section
variable {bx : Bx} {W : WX} {ow : List Addr} {tmp : List Hp} {H : Hp} {ls : LS}
theorem Rel.setAll : ∀ {is : List Nat} {vs : List V} {ds : List D} {ρ : Env1} {σ : Sg} {Q : Sg → Hp → Prop}, Rel bx ow tmp ρ σ H ls → RDs bx.K bx.sa (mn bx.O ow H) vs ds → ds.length = is.length →
    (∀ σ', Rel bx ow tmp (BL.setAll ρ is ds) σ' H ls → Q σ' H) → gNs is vs σ H Q
  | [], _, _, ρ, σ, Q, R, .nil, _, q => ⟨rfl, q σ R⟩
  | i :: is, _, _, ρ, σ, Q, R, .cons (v := v) (vs := vs) a r, hl, q => ⟨v, vs, rfl, Rel.setAll (R.set i a) r (by simpa using hl) q⟩
  | [], _, _, _, _, _, _, .cons _ _, hl, _ => by simp at hl
  | _ :: _, _, _, _, _, _, _, .nil, hl, _ => by simp at hl
end
section
variable {X : Cx} {bx : Bx} {W : WX} {a b c e tg : Expr} {f g : Env1 → M (Fg × D)} {tc : Env1 → M Bool} {m n : SM} {pos : Pos} {st : Stmt} {sts : List Stmt}
theorem bs_tup {is : List Nat} {k : Nat} (hK : bx.K = X.K) (h : PS X st (tAsg (tB bx W f) (gTup X.K k (gNs is)))) (hk : k = is.length) : PS X st (sB bx W (sTup is f)) := PS.imp h fun D σ H h => by
  obtain ⟨ow, tmp, ρ, ls, R, h⟩ := h
  refine ⟨ow, tmp, ρ, ls, R, RunS.first h R fun v H1 z ls1 P q => ?_⟩
  have r := P.rb R.toBas
  obtain ⟨z1, z2⟩ := z
  cases z2 with
  | tup ds =>
    obtain ⟨_, p, vs, rfl, h1, r1⟩ := r.tup
    by_cases hl : ds.length = is.length
    · have q : RunS bx W tmp D (if ds.length = is.length then .ok (.nx (setAll ρ is ds)) ls1 else .bad) := q
      rw [if_pos hl] at q
      exact ⟨p, vs, rfl, hK ▸ h1, by rw [r1.length, hl, hk], Rel.setAll (R.after P.kept P.lsr) r1 hl fun σ' R' => q ow σ' H1 R'⟩
    · have q : RunS bx W tmp D (if ds.length = is.length then .ok (.nx (setAll ρ is ds)) ls1 else .bad) := q
      rw [if_neg hl] at q
      exact (show False from q).elim
  | _ => exact (show False from q).elim

/-! ### a, b = x, y -/
def sPar (i j : Nat) (f g : Env1 → M (Fg × D)) : SM := fun ρ ls => stE (f ρ ls) ρ fun z ls1 => if z.1 = .bo then .bad else stE (g ρ ls1) ρ fun y ls2 => if y.1 = .bo then .bad else
  .ok (.nx ((ρ.set i (some (decide (z.1 = .fr), z.2))).set j (some (decide (y.1 = .fr), y.2)))) ls2
theorem EPost.weak {ow : List Addr} {p : Addr} {H H' : Hp} {v : V} {fr : Fg} {d : D} {ls' : LS} (P : EPost bx (p :: ow) H v H' fr d ls') (nb : fr ≠ .bo) : EPost bx ow H v H' fr d ls' := by
  have s1 : Same (mn bx.O (p :: ow) H') (mn bx.O ow H') := mn_sub fun q m => List.mem_cons_of_mem _ m
  refine ⟨P.kept, P.lsr, ?_⟩
  have hv := P.val
  cases fr with
  | bo => exact absurd rfl nb
  | sh => exact hv.mono s1
  | fr =>
    obtain ⟨q, h1, h2, h3⟩ := hv
    refine ⟨q, h1, h2, ?_⟩
    have s2 : Same (mn bx.O (q :: p :: ow) H') (mn bx.O (q :: ow) H') := mn_sub fun z m => by
      rcases List.mem_cons.mp m with rfl | m
      · exact List.mem_cons_self
      · exact List.mem_cons_of_mem _ (List.mem_cons_of_mem _ m)
    cases d with
    | lst ds => obtain ⟨vs, g1, g2⟩ := h3; exact ⟨vs, g1, g2.mono s2⟩
    | dk ds => obtain ⟨vs, g1, g2⟩ := h3; exact ⟨vs, g1, g2.mono s2⟩
    | _ => exact h3.elim
theorem ExR.mono {H H' : Hp} {e : Exn} {cls : Value} {dd : Option Addr} (h : ExR bx H e cls dd) (s : Same H H') : ExR bx H' e cls dd := by
  obtain ⟨C, h1, h2, d, fs, h3, h4, h5, h6⟩ := h
  exact ⟨C, h1, h2, d, fs, h3, s _ _ h4, h5, h6.mono s⟩
theorem RunS.first2 {D : Ends} {ow : List Addr} {p : Addr} {tmp : List Hp} {ρ : Env1} {σ : Sg} {H : Hp} {ls : LS} {r : Res (Fg × BL.D)} {k : Fg × BL.D → LS → Res Oc} {Q' : VK} (h : RunS bx W tmp D (stE r ρ k)) (R : Rel bx (p :: ow) tmp ρ σ H ls)
    (hk : ∀ v H1 z ls1, EPost bx (p :: ow) H v H1 z.1 z.2 ls1 → RunS bx W tmp D (k z ls1) → Q' v H1) : RunE bx W (p :: ow) σ H r Q' := RunS.first h R hk
theorem bs_par {i j : Nat} {x y : Str} {px py pt : Pos} {kt k2 pt2} (hc : X.calm = true) (hN : X.N.Nodup) (hi : X.N[i]? = some x) (hj : X.N[j]? = some y) (hij : i ≠ j)
    (hx : X.env.scope.names.lookup x = some .local) (hy : X.env.scope.names.lookup y = some .local) (ha : PE X a (tB bx W f)) (hb : PE X b (tB bx W g))
    (hw : swappedStores [.Tuple [.Name x px, .Name y py] kt pt] (.Tuple [a, b] k2 pt2) X.env = pure (some [x, y]) := by rfl)
    (hs : swapsWithSole [.Tuple [.Name x px, .Name y py] kt pt] (.Tuple [a, b] k2 pt2) pos.line X.env = pure false := by rfl)
    (h1 : starEach [a, b] X.env = (false, eval a X.env) :: starEach [b] X.env := by rfl) (h2 : starEach [b] X.env = (false, eval b X.env) :: starEach [] X.env := by rfl) :
    PS X (.Assign [.Tuple [.Name x px, .Name y py] kt pt] (.Tuple [a, b] k2 pt2) pos) (sB bx W (sPar i j f g)) := by
  refine PS.imp (ps_par hc hN hi hj hij hx hy (pa_cons ha (pa_cons hb pa_nil h2) h1) hw hs) fun D σ H h => ?_
  obtain ⟨ow, tmp, ρ, ls, R, h⟩ := h
  refine ⟨ow, tmp, ρ, ls, R, RunS.first h R fun v H1 z ls1 P q => ?_⟩
  by_cases nb : z.1 = .bo
  · rw [if_pos nb] at q; exact (show False from q).elim
  rw [if_neg nb] at q
  -- b, under what a may have made
  have step : ∀ ow1, Rel bx ow1 tmp ρ σ H1 ls1 → (∀ (w : V) (H2 : Hp) (y : Fg × BL.D) (ls2 : LS), EPost bx ow1 H1 w H2 y.1 y.2 ls2 → y.1 ≠ .bo → ∃ ow', Rel bx ow' tmp ((ρ.set i (some (decide (z.1 = .fr), z.2))).set j (some (decide (y.1 = .fr), y.2))) ((σ.set i (some v)).set j (some w)) H2 ls2) →
      tB bx W g σ H1 fun w H2 => D.nx ((σ.set i (some v)).set j (some w)) H2 := fun ow1 R1 hk => by
    refine ⟨ow1, tmp, ρ, ls1, R1, RunS.first q R1 fun w H2 y ls2 P2 q2 => ?_⟩
    by_cases nb2 : y.1 = .bo
    · rw [if_pos nb2] at q2; exact (show False from q2).elim
    rw [if_neg nb2] at q2
    obtain ⟨ow', R'⟩ := hk w H2 y ls2 P2 nb2
    exact q2 ow' _ H2 R'
  obtain ⟨z1, z2⟩ := z
  have goal : tB bx W g σ H1 fun w H2 => D.nx ((σ.set i (some v)).set j (some w)) H2 := by
    cases z1 with
    | bo => exact absurd rfl nb
    | sh =>
      refine step ow (R.after P.kept P.lsr) fun w H2 y ls2 P2 nb2 => ?_
      have R1 := (R.after P.kept P.lsr).set i (P.rd R.toBas nb)
      exact R1.store j P2 nb2
    | fr =>
      obtain ⟨p, rfl, h3, h4, h5⟩ := P.at
      have R1 := R.grow P.kept P.lsr h3 h5
      refine step (p :: ow) R1 fun w H2 y ls2 P2 nb2 => ?_
      have R2 := R1.setOwn i List.mem_cons_self (fun j e g1 g2 => by
        obtain ⟨q, mq, g3, g4⟩ := R.own j e g1
        rw [g2] at g3
        cases g3
        exact absurd h3 (R.fr _ mq).2.2) h4
      exact R2.store j P2 nb2
  obtain ⟨ow2, tmp2, ρ2, ls2, R2, h2⟩ := goal
  refine ⟨ow2, tmp2, ρ2, ls2, R2, ?_⟩
  cases hr : g ρ2 ls2 with
  | bad => rw [hr] at h2; exact h2
  | ok y l3 => rw [hr] at h2; exact fun w H2 P2 => ⟨v, w, rfl, h2 w H2 P2⟩
  | ex x l3 => rw [hr] at h2; exact h2
end
end BL
end

section
set_option Elab.async false
set_option linter.all false
set_option maxRecDepth 100000
set_option maxHeartbeats 4000000
namespace BL
open PySem PySem.Spec PyProof.Rows L2

/-! ### x[k] = v -/
def storeD (d k v : D) : Option D := match d with
  | .dk kvs => (keyD k).bind fun k => if kvs.length < sizeLine then some (.dk (putD kvs k v)) else none
  | .lst xs => match k with
    | .int i => (ixN xs.length i).map fun j => .lst (xs.set j v)
    | _ => none
  | _ => none
theorem RDk.any {K : PySem.W.Frag} {sa : Addr} {H : Hp} {k : Key} : ∀ {vs : List (Key × V)} {ds : List (Key × D)}, RDk K sa H vs ds → (vs.any fun kv => decide (kv.1 = k)) = ds.any fun kv => decide (kv.1 = k)
  | _, _, .nil => rfl
  | _, _, .cons _ r => by rw [List.any_cons, List.any_cons, r.any]
theorem RDk.upd {K : PySem.W.Frag} {sa : Addr} {H : Hp} {k : Key} {v : V} {d : D} (rv : RD K sa H v d) : ∀ {vs : List (Key × V)} {ds : List (Key × D)}, RDk K sa H vs ds →
    RDk K sa H (vs.map fun kv => if kv.1 = k then (kv.1, v) else kv) (ds.map fun kv => if kv.1 = k then (kv.1, d) else kv)
  | _, _, .nil => .nil
  | _, _, .cons (k := j) a r => by
    rw [List.map_cons, List.map_cons]
    by_cases e : j = k
    · simp only [e, if_true]; exact .cons rv (RDk.upd rv r)
    · simp only [e, if_false]; exact .cons a (RDk.upd rv r)
theorem RDk.append {K : PySem.W.Frag} {sa : Addr} {H : Hp} : ∀ {vs us : List (Key × V)} {ds es : List (Key × D)}, RDk K sa H vs ds → RDk K sa H us es → RDk K sa H (vs ++ us) (ds ++ es)
  | _, _, _, _, .nil, h => h
  | _, _, _, _, .cons a b, h => .cons a (b.append h)
theorem RDk.put {K : PySem.W.Frag} {sa : Addr} {H : Hp} {k : Key} {v : V} {d : D} {vs : List (Key × V)} {ds : List (Key × D)} (r : RDk K sa H vs ds) (rv : RD K sa H v d) : RDk K sa H (putK vs k v) (putD ds k d) := by
  unfold putK putD
  rw [r.any]
  split
  · exact r.upd rv
  · exact r.append (.cons rv .nil)
theorem RDs.set {K : PySem.W.Frag} {sa : Addr} {H : Hp} {v : V} {d : D} (rv : RD K sa H v d) : ∀ {vs : List V} {ds : List D} (i : Nat), RDs K sa H vs ds → RDs K sa H (vs.set i v) (ds.set i d)
  | _, _, _, .nil => .nil
  | _, _, 0, .cons _ r => .cons rv r
  | _, _, i + 1, .cons a r => .cons a (RDs.set rv i r)
def rSetB : TSet := fun o i v H Q => rSetL o i v H Q ∨ rSetD o i v H Q
theorem set_B {X : Cx} (hu : X.A.units + 1 < cLine) : PSet X rSetB := by
  intro pins s σ H o i v ov iv u Q I ro ri rv h0
  rcases h0 with h0 | h0
  · exact set_list pins s σ H o i v ov iv u Q I ro ri rv h0
  · exact set_dict hu pins s σ H o i v ov iv u Q I ro ri rv h0
def sStore (j : Nat) (kf vf : Env1 → M (Fg × D)) : SM := fun ρ ls => stE (vf ρ ls) ρ fun v ls1 => if v.1 = .bo then .bad else match ρ[j]? with
  | some (some (true, d)) => stE (kf ρ ls1) ρ fun k ls2 => match storeD d k.2 v.2 with
    | some d' => .ok (.nx (ρ.set j (some (true, d')))) ls2
    | none => .bad
  | _ => .bad
/-- the heap behind a store into what is hidden -/
theorem store_ok {bx : Bx} {ow : List Addr} {H : Hp} {p : Addr} {d d' dk dv : D} {k v : V} {Q : Hp → Prop} (m : p ∈ ow) (t : Top bx ow H p d) (rk : RB bx ow H k dk) (rv : RD bx.K bx.sa (mn bx.O ow H) v dv) (e : storeD d dk dv = some d')
    (q : ∀ o, Top bx ow (L2.upd H p o) p d' → Q (L2.upd H p o)) : rSetB (.ref p) k v H Q := by
  have sm : ∀ o, Same (mn bx.O ow H) (mn bx.O ow (L2.upd H p o)) := fun o => mn_congr m
  cases d with
  | dk kvs =>
    obtain ⟨ks, h1, h2⟩ := t
    simp only [storeD] at e
    obtain ⟨key, e1, e2⟩ := Option.bind_eq_some_iff.mp e
    split at e2
    · rename_i hl
      cases e2
      obtain rfl := keyD_of rk e1
      exact .inr ⟨p, _, rfl, DPut.k h1 (by rw [h2.length]; exact hl), q _ ⟨_, upd_same, (h2.put rv).mono (sm _)⟩⟩
    · cases e2
  | lst xs =>
    obtain ⟨vs, h1, h2⟩ := t
    cases dk with
    | int i =>
      simp only [storeD] at e
      obtain ⟨n, e1, rfl⟩ := Option.map_eq_some_iff.mp e
      obtain rfl := rk.int
      exact .inl ⟨p, vs, i, n, rfl, rfl, h1, by rw [h2.length]; exact e1, q _ ⟨_, upd_same, (h2.set rv n).mono (sm _)⟩⟩
    | _ => simp only [storeD] at e; cases e
  | _ => exact t.elim
section
variable {X : Cx} {bx : Bx} {W : WX} {a b c e tg : Expr} {f g : Env1 → M (Fg × D)} {tc : Env1 → M Bool} {m n : SM} {pos : Pos} {st : Stmt} {sts : List Stmt}
theorem bs_store {j : Nat} (h : PS X st (tAsg (tB bx W f) (gSub (tVar j) (tB bx W g) rSetB))) : PS X st (sB bx W (sStore j g f)) := PS.imp h fun D σ H h => by
  obtain ⟨ow, tmp, ρ, ls, R, h⟩ := h
  refine ⟨ow, tmp, ρ, ls, R, RunS.first h R fun v H1 z ls1 P q => ?_⟩
  by_cases nb : z.1 = .bo
  · rw [if_pos nb] at q; exact (show False from q).elim
  rw [if_neg nb] at q
  have R1 := R.after P.kept P.lsr
  have rv := P.rd R.toBas nb
  split at q
  · rename_i d e1
    obtain ⟨p, m, h2, t⟩ := R1.own j d e1
    refine ⟨.ref p, h2, ow, tmp, ρ, ls1, R1, RunS.first q R1 fun k H2 y ls2 P2 q2 => ?_⟩
    have R2 := R1.after P2.kept P2.lsr
    have t2 := t.after R1.toBas P2.kept (R1.notS m)
    cases e2 : storeD d y.2 z.2 with
    | none => rw [e2] at q2; exact (show False from q2).elim
    | some d' =>
      rw [e2] at q2
      exact store_ok m t2 (P2.rb R1.toBas) (rv.mono (P2.kept.mn R1.toBas)) e2 fun o t3 => q2 ow σ _ (R2.change e1 h2 m t3)
  · exact (show False from q).elim

/-! ### methods that change -/
def MethS (bx : Bx) (T : String) (r : V → List V → Hp → VK → Prop) (o : D → List D → Option (D × D)) : Prop :=
  ∀ (ow : List Addr) (H : Hp) (p : Addr) (vs : List V) (d : D) (ds : List D) (d' z : D) (Q : VK), p ∈ ow → Top bx ow H p d → RDs bx.K bx.sa (mn bx.O ow H) vs ds → o d ds = some (d', z) →
    (∀ v u, Top bx ow (L2.upd H p u) p d' → RD bx.K bx.sa (mn bx.O ow H) v z → Q v (L2.upd H p u)) → r (.ref p) vs H Q
/-- the slot's thing changes; what the method gives goes to slot i, or is dropped -/
def sMeth (j : Nat) (o : D → List D → Option (D × D)) (t : Env1 → M (List D)) (i : Option Nat) : SM := fun ρ ls => match ρ[j]? with
  | some (some (true, .lst xs)) => stE (t ρ ls) ρ fun ds ls1 => match o (.lst xs) ds with
    | some (d', z) => .ok (.nx (match i with
      | none => ρ.set j (some (true, d'))
      | some i => (ρ.set j (some (true, d'))).set i (some (false, z)))) ls1
    | none => .bad
  | _ => .bad
theorem tyV_top {ow : List Addr} {H : Hp} {p : Addr} {xs : List D} (t : Top bx ow H p (.lst xs)) : tyV bx.K "list" (.ref p) H := by
  obtain ⟨vs, h1, h2⟩ := t
  exact .inl ⟨rfl, vs, SqL.of h1⟩
theorem bs_meth {j : Nat} {r : V → List V → Hp → VK → Prop} {o : D → List D → Option (D × D)} {t : Env1 → M (List D)} (hK : bx.K = X.K) (h : PS X st (tDrop (tBM X.K "list" r (tVar j) (tA bx W t)))) (hs : MethS bx "list" r o) : PS X st (sB bx W (sMeth j o t none)) := PS.imp h fun D σ H h => by
  obtain ⟨ow, tmp, ρ, ls, R, h⟩ := h
  have h : RunS bx W tmp D (sMeth j o t none ρ ls) := h
  unfold sMeth at h
  split at h
  · rename_i xs e1
    obtain ⟨p, m, h2, tp⟩ := R.own j _ e1
    refine ⟨.ref p, h2, hK ▸ tyV_top tp, ow, tmp, ρ, ls, R, RunS.args h R fun vs H1 ds ls1 k1 r1 R1 q => ?_⟩
    have t1 := tp.after R.toBas k1 (R.notS m)
    cases e2 : o (.lst xs) ds with
    | none => rw [e2] at q; exact (show False from q).elim
    | some z =>
      obtain ⟨d', z⟩ := z
      rw [e2] at q
      exact hs ow H1 p vs _ ds d' z _ m t1 r1 e2 fun v u t3 rz => q ow σ _ (R1.change e1 h2 m t3)
  · exact (show False from h).elim
theorem bs_methSet {i j : Nat} {r : V → List V → Hp → VK → Prop} {o : D → List D → Option (D × D)} {t : Env1 → M (List D)} (hK : bx.K = X.K) (h : PS X st (tAsg (tBM X.K "list" r (tVar j) (tA bx W t)) (gName i))) (hs : MethS bx "list" r o) : PS X st (sB bx W (sMeth j o t (some i))) := PS.imp h fun D σ H h => by
  obtain ⟨ow, tmp, ρ, ls, R, h⟩ := h
  have h : RunS bx W tmp D (sMeth j o t (some i) ρ ls) := h
  unfold sMeth at h
  split at h
  · rename_i xs e1
    obtain ⟨p, m, h2, tp⟩ := R.own j _ e1
    refine ⟨.ref p, h2, hK ▸ tyV_top tp, ow, tmp, ρ, ls, R, RunS.args h R fun vs H1 ds ls1 k1 r1 R1 q => ?_⟩
    have t1 := tp.after R.toBas k1 (R.notS m)
    cases e2 : o (.lst xs) ds with
    | none => rw [e2] at q; exact (show False from q).elim
    | some z =>
      obtain ⟨d', z⟩ := z
      rw [e2] at q
      exact hs ow H1 p vs _ ds d' z _ m t1 r1 e2 fun v u t3 rz => q ow _ _ ((R1.change e1 h2 m t3).set i (rz.mono (mn_congr m)))
  · exact (show False from h).elim
/-- no written arguments -/
theorem bs_meth0 {j : Nat} {r : V → List V → Hp → VK → Prop} {o : D → List D → Option (D × D)} (hK : bx.K = X.K) (h : PS X st (tDrop (tBM0 X.K "list" r (tVar j)))) (hs : MethS bx "list" r o) : PS X st (sB bx W (sMeth j o aNil none)) := PS.imp h fun D σ H h => by
  obtain ⟨ow, tmp, ρ, ls, R, h⟩ := h
  have h : RunS bx W tmp D (sMeth j o aNil none ρ ls) := h
  unfold sMeth at h
  split at h
  · rename_i xs e1
    obtain ⟨p, m, h2, tp⟩ := R.own j _ e1
    refine ⟨.ref p, h2, hK ▸ tyV_top tp, ?_⟩
    have q : RunS bx W tmp D (match o (.lst xs) [] with
      | some (d', z) => .ok (.nx (ρ.set j (some (true, d')))) ls
      | none => .bad) := h
    cases e2 : o (.lst xs) [] with
    | none => rw [e2] at q; exact (show False from q).elim
    | some z =>
      obtain ⟨d', z⟩ := z
      rw [e2] at q
      exact hs ow H p [] _ [] d' z _ m tp .nil e2 fun v u t3 rz => q ow σ _ (R.change e1 h2 m t3)
  · exact (show False from h).elim
theorem bs_methSet0 {i j : Nat} {r : V → List V → Hp → VK → Prop} {o : D → List D → Option (D × D)} (hK : bx.K = X.K) (h : PS X st (tAsg (tBM0 X.K "list" r (tVar j)) (gName i))) (hs : MethS bx "list" r o) : PS X st (sB bx W (sMeth j o aNil (some i))) := PS.imp h fun D σ H h => by
  obtain ⟨ow, tmp, ρ, ls, R, h⟩ := h
  have h : RunS bx W tmp D (sMeth j o aNil (some i) ρ ls) := h
  unfold sMeth at h
  split at h
  · rename_i xs e1
    obtain ⟨p, m, h2, tp⟩ := R.own j _ e1
    refine ⟨.ref p, h2, hK ▸ tyV_top tp, ?_⟩
    have q : RunS bx W tmp D (match o (.lst xs) [] with
      | some (d', z) => .ok (.nx ((ρ.set j (some (true, d'))).set i (some (false, z)))) ls
      | none => .bad) := h
    cases e2 : o (.lst xs) [] with
    | none => rw [e2] at q; exact (show False from q).elim
    | some z =>
      obtain ⟨d', z⟩ := z
      rw [e2] at q
      exact hs ow H p [] _ [] d' z _ m tp .nil e2 fun v u t3 rz => q ow _ _ ((R.change e1 h2 m t3).set i (rz.mono (mn_congr m)))
  · exact (show False from h).elim
end
def appD : D → List D → Option (D × D)
  | .lst xs, [d] => if xs.length < sizeLine then some (.lst (xs ++ [d]), .non) else none
  | _, _ => none
def extD : D → List D → Option (D × D)
  | .lst xs, [.lst ys] => if xs.length + ys.length ≤ sizeLine then some (.lst (xs ++ ys), .non) else none
  | _, _ => none
def popD : D → List D → Option (D × D)
  | .lst xs, [] => (xs[xs.length - 1]?).map fun d => (.lst xs.dropLast, d)
  | _, _ => none
def reverseD : D → List D → Option (D × D)
  | .lst xs, [] => some (.lst xs.reverse, .non)
  | _, _ => none
def insD : D → List D → Option (D × D)
  | .lst xs, [.int i, d] => if xs.length < sizeLine ∧ 0 ≤ i ∧ i < 2 ^ 63 then some (.lst (xs.take i.toNat ++ [d] ++ xs.drop i.toNat), .non) else none
  | _, _ => none
theorem RDs.last {K : PySem.W.Frag} {sa : Addr} {H : Hp} {vs : List V} {ds : List D} (r : RDs K sa H vs ds) : RDs K sa H vs.dropLast ds.dropLast := by
  rw [List.dropLast_eq_take, List.dropLast_eq_take, r.length]
  exact r.take _
theorem RDs.one_inv {K : PySem.W.Frag} {sa : Addr} {H : Hp} {vs : List V} {d : D} (r : RDs K sa H vs [d]) : ∃ v, vs = [v] ∧ RD K sa H v d := by
  cases r with
  | cons a b => cases b; exact ⟨_, rfl, a⟩
section
variable {bx : Bx}
theorem ms_app : MethS bx "list" rAppend appD := by
  intro ow H p vs d ds d' z Q m t r e q
  cases d <;> try exact t.elim
  · obtain ⟨us, h1, h2⟩ := t
    match ds, e with
    | [x], e =>
      simp only [appD] at e
      split at e
      · rename_i hl
        cases e
        obtain ⟨v, rfl, rv⟩ := r.one_inv
        exact ⟨p, us, v, rfl, rfl, h1, by rw [h2.length]; exact hl, q _ _ ⟨_, upd_same, (h2.append (.cons rv .nil)).mono (mn_congr m)⟩ .non⟩
      · cases e
    | [], e => simp [appD] at e
    | _ :: _ :: _, e => simp [appD] at e
  · simp [appD] at e
theorem ms_pop : MethS bx "list" rPop popD := by
  intro ow H p vs d ds d' z Q m t r e q
  cases d <;> try exact t.elim
  · obtain ⟨us, h1, h2⟩ := t
    match ds, e with
    | [], e =>
      simp only [popD] at e
      obtain ⟨x, e1, e2⟩ := Option.map_eq_some_iff.mp e
      cases e2
      cases r
      obtain ⟨v, g1, g2⟩ := h2.get e1
      rw [← h2.length] at g1
      exact ⟨p, us, v, rfl, rfl, h1, g1, q _ _ ⟨_, upd_same, h2.last.mono (mn_congr m)⟩ g2⟩
    | _ :: _, e => simp [popD] at e
  · simp [popD] at e
theorem ms_rev : MethS bx "list" rReverse reverseD := by
  intro ow H p vs d ds d' z Q m t r e q
  cases d <;> try exact t.elim
  · obtain ⟨us, h1, h2⟩ := t
    match ds, e with
    | [], e =>
      simp only [reverseD] at e
      cases e
      cases r
      exact ⟨p, us, rfl, rfl, h1, q _ _ ⟨_, upd_same, h2.rev.mono (mn_congr m)⟩ .non⟩
    | _ :: _, e => simp [reverseD] at e
  · simp [reverseD] at e
theorem ms_ext : MethS bx "list" rExtend extD := by
  intro ow H p vs d ds d' z Q m t r e q
  cases d <;> try exact t.elim
  · obtain ⟨us, h1, h2⟩ := t
    match ds, e with
    | [.lst ys], e =>
      simp only [extD] at e
      split at e
      · rename_i hl
        cases e
        obtain ⟨v, rfl, rv⟩ := r.one_inv
        cases rv with
        | @lst b zs _ g1 g2 =>
        exact ⟨p, b, us, zs, rfl, rfl, h1, (mn_some g1).1, by rw [h2.length, g2.length]; exact hl, q _ _ ⟨_, upd_same, (h2.append g2).mono (mn_congr m)⟩ .non⟩
      · cases e
    | [], e => simp [extD] at e
    | _ :: _ :: _, e => simp [extD] at e
  · simp [extD] at e
theorem ms_ins : MethS bx "list" (fun x vs H Q => ∃ (l : Addr) (xs : List V) (i : Int) (y : V), x = .ref l ∧ vs = [.int i, y] ∧ H l = some (.lst xs) ∧ xs.length < sizeLine ∧ 0 ≤ i ∧ i < 2 ^ 63 ∧ Q .non (L2.upd H l (.lst (xs.take i.toNat ++ [y] ++ xs.drop i.toNat)))) insD := by
  intro ow H p vs d ds d' z Q m t r e q
  cases d <;> try exact t.elim
  · obtain ⟨us, h1, h2⟩ := t
    match ds, e with
    | [.int i, x], e =>
      simp only [insD] at e
      split at e
      · rename_i hl
        cases e
        cases r with
        | cons ri r =>
        obtain ⟨v, rfl, rv⟩ := r.one_inv
        cases ri
        exact ⟨p, us, i, v, rfl, rfl, h1, by rw [h2.length]; exact hl.1, hl.2.1, hl.2.2, q _ _ ⟨_, upd_same, (((h2.take _).append (.cons rv .nil)).append (h2.drop _)).mono (mn_congr m)⟩ .non⟩
      · cases e
    | [], e => simp [insD] at e
    | [_], e => simp [insD] at e
    | _ :: _ :: _ :: _, e => simp [insD] at e
  · simp [insD] at e
end
end BL
end

section
set_option Elab.async false
set_option linter.all false
set_option maxRecDepth 100000
set_option maxHeartbeats 4000000
namespace PySem
open Sem (wp)
open AutoSeq1 (wpAny_loadPart')
/-- enumerate(t), t a tuple -/
theorem bl_enum_new (l : Addr) (items : Array Value) :
    Meets (Builtin.«enumerate.__new__» ⟨[.type "enumerate", .ref l], []⟩) (fun _ R s => s.heap.IsTuple l items ∧
      R (.ok (.ret (.ref (s.heap.push { cls := .type "tuple_iterator", data := .fields #[.ref l, .int 0 0] }).objs.size)))
        { s with heap := (s.heap.push { cls := .type "tuple_iterator", data := .fields #[.ref l, .int 0 0] }).push { cls := .type "enumerate", data := .fields #[.none, .bool false, .ref s.heap.objs.size, rawInt 0, .none, .none] } }) :=
  .of_wp fun prog w A R s h0 => by
    obtain ⟨hp, g, d, tk, os⟩ := s; obtain ⟨hL, h0⟩ := h0
    have hsub := sub_enumerate
    have hL : Heap.IsTuple (Shared.heap ⟨hp, g, d, tk, os⟩) l items := hL
    obtain ⟨o0, hl, hc0, n0, hd0⟩ := id hL
    wp_walk using wpAny_loadPart' hl
    refine wpAny_stack_any fun st => wpAny_pure ?_
    split
    · rename_i c _ _ _ _ _
      cases (c == Value.type "enumerate")
      · wp_walk using wpAny_loadPart' hl, wpAny_pyIter_tuple hL
        exact ⟨_, rfl, h0⟩
      · wp_walk using wpAny_loadPart' hl, wpAny_pyIter_tuple hL
        exact ⟨_, rfl, h0⟩
    · wp_walk using wpAny_loadPart' hl, wpAny_pyIter_tuple hL
      exact ⟨_, rfl, h0⟩
section
variable {prog : Program} {w : World} {A : Around} {E : Value → Shared → Prop} {s : Shared}
theorem bl_call_enum {l : Addr} {items : Array Value} {R : Value → Shared → Prop} (hL : s.heap.IsTuple l items)
    (fin : ∀ h', IsEnum h' (s.heap.objs.size + 1) s.heap.objs.size 0 .none → h'.IsTupleIter s.heap.objs.size l 0 → (∀ b o, s.heap.get? b = some o → h'.get? b = some o) → R (.ref (s.heap.objs.size + 1)) { s with heap := h' }) :
    wpAny (model prog w) A (call (.type "enumerate") [.ref l]) R E s := by
  refine callType_new F.called_enumerate (by decide) (F.typeCall_enumerate_1 _) (F.newCall_enumerate_1 _) (fun obj => F.args_object_init_2 obj _) F.entry_enumerate_new (bl_enum_new l items) ⟨hL, ?_⟩
  have e1 : (s.heap.push { cls := .type "tuple_iterator", data := .fields #[.ref l, .int 0 0] }).objs.size = s.heap.objs.size + 1 := Heap.size_push ..
  show _ ∧ _
  rw [e1]
  have e2 : IsEnum ((s.heap.push { cls := .type "tuple_iterator", data := .fields #[.ref l, .int 0 0] }).push { cls := .type "enumerate", data := .fields #[.none, .bool false, .ref s.heap.objs.size, rawInt 0, .none, .none] }) (s.heap.objs.size + 1) s.heap.objs.size 0 .none := by
    have e3 := Heap.get?_push_size (s.heap.push { cls := .type "tuple_iterator", data := .fields #[.ref l, .int 0 0] }) (o := { cls := .type "enumerate", data := .fields #[.none, .bool false, .ref s.heap.objs.size, rawInt 0, .none, .none] }) rfl
    rw [e1] at e3; exact e3
  exact ⟨⟨_, e2, rfl⟩, fin _ e2 ⟨_, Heap.get?_push_of_some _ (Heap.get?_push_size _ rfl), rfl, rfl⟩ fun b o x => Heap.get?_push_of_some _ (Heap.get?_push_of_some _ x)⟩
end
end PySem
namespace BL
open PySem PySem.Spec PyProof.Rows L2
def IteT (K : PySem.W.Frag) (a : Addr) : It :=
  ⟨fun i H => ∃ (xs : List V) (x : V), SqT K H a xs ∧ xs[i]? = some x, fun i H v H' => ∃ T x, v = .ref T ∧ H T = none ∧ H' = L2.upd H T (.tup [.int (i : Nat), x]) ∧ ∀ xs, SqT K H a xs → xs[i]? = some x, fun i H => ∃ xs : List V, SqT K H a xs ∧ xs.length ≤ i⟩
theorem turn_enT {P : Program} {w : World} {K : PySem.W.Frag} {elts : List Expr} {kk : Nat} {tpos : Pos} (a e it : Addr) :
    Turn P w K (.Tuple elts kk tpos) (IteT K a) [e, it] e (fun i h => (∃ old, IsEnum h e it ((i : Nat) : Int) old) ∧ h.IsTupleIter it a i ∧ e ≠ it ∧ a ≠ it ∧ a ≠ e) where
  mem := by simp
  obj := fun i h st b hb => by
    obtain ⟨⟨old, he⟩, ⟨o, ho, hc, hd⟩, _⟩ := st
    rcases (show b = e ∨ b = it by simpa using hb) with z | z
    · rw [z]; exact ⟨_, he, fun v q => nomatch q⟩
    · rw [z]; exact ⟨o, ho, fun v q => by rw [hd] at q; cases q⟩
  keep := fun i h h' st k => let ⟨⟨old, he⟩, hi, hne⟩ := st; ⟨⟨old, k e (by simp) _ he⟩, hi.at fun o q => k it (by simp) o q, hne⟩
  item := by
    intro X hP hw hK hc i pins s σ H E I hf st hg
    subst hP hw hK
    obtain ⟨⟨old, he⟩, hit, hne, hai, hae⟩ := st
    obtain ⟨xs, x, hq, hx⟩ := hg
    obtain ⟨its, rv, p, hz⟩ := I.tuple hq
    obtain ⟨u, hu, ru⟩ := rv.get hx
    have hel : e < s.heap.objs.size := Heap.lt_size he
    have hil : it < s.heap.objs.size := by obtain ⟨_, q, _⟩ := hit; exact Heap.lt_size q
    have hlt : i < its.toArray.size := by
      rw [List.size_toArray]
      exact (List.getElem?_eq_some_iff.mp hu).1
    refine wpAny_pyNext_enum_itemC (Draws.tuple (show X.A.in1.handled = none from I.ok.hd hc) it a hai its.toArray) he ⟨hit, show s.heap.IsTuple a its.toArray from p⟩ hlt hne (by simp [hne, Ne.symm hae]) fun y h' tk hy ho st' hT hsz hk => ?_
    obtain ⟨hit', _⟩ := st'
    have ey : y = u := by
      have : its.toArray[i]? = some u := by simpa using hu
      rw [this] at hy
      exact (Option.some.inj hy).symm
    subst ey
    refine ⟨_, rfl, wpAny_letOwnedTupleGo_enum (s := { s with heap := h', toks := tk + 1 }) ho fun h'' he' sb => ?_⟩
    have hT2 : h''.get? s.heap.objs.size = some { cls := .type "tuple", data := .seq #[.int i tk, y] } := (sb.2 _ (Nat.ne_of_gt hel)).trans hT
    have new : ObjOk X.prog X.w (L2.upd H s.heap.objs.size (.tup [.int (i : Nat), x])) h'' s.heap.objs.size (.tup [.int (i : Nat), x]) :=
      ⟨by show 2 ≤ sizeLine; decide, [.int i tk, y], .cons ⟨_, rfl⟩ (.cons ru .nil), ⟨_, hT2, rfl, _, rfl⟩⟩
    have I1 : Inv X pins σ (L2.upd H s.heap.objs.size (.tup [.int (i : Nat), x])) { s with heap := h'', toks := tk + 1 } :=
      I.turnedNew (ch := [e, it]) (fun b ob hb q => (sb.2 b (fun z => hb (by simp [z]))).trans (hk b ob (fun z => hb (by simp [z])) (fun z => hb (by simp [z])) q)) hf (Nat.le_refl _) new
    refine ⟨.ref s.heap.objs.size, _, I1, rfl, ⟨_, x, rfl, I.hok.fresh (Nat.le_refl _), rfl, fun ys hy => by rw [I.tuple_inj hy hq]; exact hx⟩, ⟨⟨y, ?_⟩, hit'.at fun o q => (sb.2 it (Ne.symm hne)).trans q, hne, hai, hae⟩, fun b hb => ?_⟩
    · rw [show ((i + 1 : Nat) : Int) = (i : Int) + 1 by omega]; exact he'
    · have hb' : b < s.heap.objs.size := by
        rcases (show b = e ∨ b = it by simpa using hb) with z | z
        · rw [z]; exact hel
        · rw [z]; exact hil
      rw [upd_ne (Nat.ne_of_lt hb')]
      exact (hf b hb).1
  done := by
    intro X hP hw hK hc i pins s σ H E I hf st hg
    subst hP hw hK
    obtain ⟨⟨old, he⟩, hit, hne, hai, hae⟩ := st
    obtain ⟨xs, hq, hx⟩ := hg
    obtain ⟨its, rv, p, hz⟩ := I.tuple hq
    obtain ⟨f0, f1, f2, f3, f4, f5⟩ := hf it (by simp)
    have hl := rv.length
    have hp : s.heap.IsTuple a its.toArray := p
    have end0 : its.toArray[i]? = none := by
      rw [Array.getElem?_eq_none_iff, List.size_toArray]; omega
    have D : Draws X.prog X.w X.A.in1 it [it, a] i (fun _ _ => True) (fun j h => j = i ∧ h.IsTupleIter it a i ∧ h.IsTuple a its.toArray) :=
      ⟨fun _ _ st => let ⟨o, ho, _⟩ := st.2.1; ⟨o, ho⟩, fun _ _ _ st hk => ⟨st.1, st.2.1.at fun o e => hk it (by simp) o e, st.2.2.at fun o e => hk a (by simp) o e⟩,
        fun j s Q E hj st _ => absurd st.1 (Nat.ne_of_lt hj), fun s Q E st hE => wpAny_nextOf_tuple_end (show X.A.in1.handled = none from I.ok.hd hc) st.2.1 st.2.2 end0 hE⟩
    exact wpAny_pyNext_enum_endD D he ⟨rfl, hit, hp⟩ fun h' eb => ⟨rfl, I.turned (t' := s.toks) (fun b o hb q => eb b o hb q) f0 f1 f3 f4 f5⟩
  self := fun A i s Q E st h => let ⟨⟨_, he⟩, _⟩ := st; wpAny_pyIter_enum he h
theorem walk_enT {K : PySem.W.Frag} {a : Addr} {xs : List V} : Walk (IteT K a) xs.length (fun H => SqT K H a xs) (YPair (fun i => some (.int (i : Nat))) (fun i => xs[i]?)) := by
  refine ⟨fun i _ hi q => ⟨xs, xs[i], q, by simp [hi]⟩, fun _ q => ⟨xs, q, Nat.le_refl _⟩, fun i H v H' _ q y => ?_⟩
  obtain ⟨T, x, e1, e2, e3, e4⟩ := y
  exact ⟨T, .int (i : Nat), x, e1, e2, e3, rfl, e4 xs q⟩
def iEnumB (K : PySem.W.Frag) (ta : TA) : TI := fun σ H R => ta σ H fun vs H1 => ∃ a xs, vs = [.ref a] ∧ ((SqL K H1 a xs ∧ R (Ite K a) H1) ∨ (SqT K H1 a xs ∧ R (IteT K a) H1))
theorem pi_enumB {X : Cx} {e : Expr} {ta : TA} {p pos tpos : Pos} {elts : List Expr} {kk : Nat} (hg : Gl X "enumerate") (hm : X.mg "enumerate" = none) (ha : PA X [e] ta) (hs : starEach [e] X.env = [(false, eval e X.env)] := by rfl) :
    PI X (.Tuple elts kk tpos) (.Call (.Name "enumerate" p) [e] [] pos) (iEnumB X.K ta) := by
  refine ⟨fun pins s σ H R I h0 => ?_⟩
  refine Call_ (ld_blt I hg hm boot_enumerate (PyProof.Rows.callWith_type1 (thn (ha.run pos pins s σ H _ I h0) fun us s1 ⟨vs, H1, I1, r1, q1⟩ => ?_) hs rfl))
  obtain ⟨a, xs, ex, q1⟩ := q1
  subst ex
  cases r1 with
  | cons r rr =>
    cases rr
    cases r
    have fp : ∀ b ∈ [s1.heap.objs.size + 1, s1.heap.objs.size], FpOk X pins H1 b := fun b hb => by
      have hle : s1.heap.objs.size ≤ b := by
        rcases (show b = s1.heap.objs.size + 1 ∨ b = s1.heap.objs.size by simpa using hb) with z | z
        · rw [z]; exact Nat.le_add_right _ _
        · rw [z]; exact Nat.le_refl _
      exact I1.fpOk hle (I1.hok.fresh hle)
    rcases q1 with ⟨hq, q⟩ | ⟨hq, q⟩
    · obtain ⟨its, rv, p', hz⟩ := I1.list hq
      refine call_enumerate_list p'.isList fun h' he hit hsz hk => wpAny_pyIter_enum he ?_
      exact ⟨s1.heap.objs.size + 1, [s1.heap.objs.size + 1, s1.heap.objs.size], _, _, H1, rfl, I1.kept (t' := s1.toks) hk, turn_enum a (s1.heap.objs.size + 1) s1.heap.objs.size, ⟨⟨.none, he⟩, hit, Nat.succ_ne_self _⟩, fp, q⟩
    · obtain ⟨its, rv, p', hz⟩ := I1.tuple hq
      have hT : s1.heap.IsTuple a its.toArray := p'
      have hlt : a < s1.heap.objs.size := by obtain ⟨o, e1, _⟩ := hT; exact Heap.lt_size e1
      refine PySem.bl_call_enum hT fun h' he hit hk => wpAny_pyIter_enum he ?_
      exact ⟨s1.heap.objs.size + 1, [s1.heap.objs.size + 1, s1.heap.objs.size], _, _, H1, rfl, I1.kept (t' := s1.toks) hk, turn_enT a (s1.heap.objs.size + 1) s1.heap.objs.size, ⟨⟨.none, he⟩, hit, Nat.succ_ne_self _, Nat.ne_of_lt hlt, Nat.ne_of_lt (Nat.lt_succ_of_lt hlt)⟩, fp, q⟩
end BL
end

section
set_option Elab.async false
set_option linter.all false
set_option maxRecDepth 100000
set_option maxHeartbeats 4000000
namespace BL
open PySem PySem.Spec PyProof.Rows L2

/-! ### while -/
def sWhile (c : Env1 → M Bool) (b : SM) : Nat → SM
  | 0 => fun _ _ => .bad
  | n + 1 => fun ρ ls => stE (c ρ ls) ρ fun t ls1 => if t = true then (match b ρ ls1 with
      | .ok (.nx ρ') ls2 => sWhile c b n ρ' ls2
      | .ok (.ct ρ') ls2 => sWhile c b n ρ' ls2
      | .ok (.bk ρ') ls2 => .ok (.nx ρ') ls2
      | r => r) else .ok (.nx ρ) ls1
section
variable {X : Cx} {bx : Bx} {W : WX} {a b c e tg : Expr} {f g : Env1 → M (Fg × D)} {tc : Env1 → M Bool} {m n : SM} {pos : Pos} {st : Stmt} {sts : List Stmt}
theorem bs_while (k : Nat) (hp : PassesOwn (model X.prog X.w) X.A X.env X.xe) (hc : PT X c (tT bx W tc)) (hb : PSs X sts (sB bx W m)) : PS X (.While c sts [] pos) (sB bx W (sWhile tc m k)) := PS.imp (ps_while hp hc hb) fun D σ H h => by
  obtain ⟨ow, tmp, ρ, ls, R, h⟩ := h
  refine ⟨fun k σ H => ∃ ow ρ ls, Rel bx ow tmp ρ σ H ls ∧ RunS bx W tmp D (sWhile tc m k ρ ls), ⟨k, ow, ρ, ls, R, h⟩, ?_⟩
  rintro k σ H ⟨ow, ρ, ls, R, h⟩
  cases k with
  | zero => exact (show False from h).elim
  | succ k =>
    refine ⟨ow, tmp, ρ, ls, R, RunS.test h R fun b H1 ls1 R1 q => ?_⟩
    cases b with
    | false => rw [if_neg (by decide)]; exact q ow σ H1 R1
    | true =>
      rw [if_pos rfl]
      rw [if_pos rfl] at q
      refine ⟨fun σ' H' => ∃ ow ρ ls, Rel bx ow tmp ρ σ' H' ls ∧ RunS bx W tmp D (sWhile tc m k ρ ls), fun σ' H' w => ⟨k, Nat.lt_succ_self _, w⟩, ow, tmp, ρ, ls1, R1, ?_⟩
      cases hr : m ρ ls1 with
      | bad => rw [hr] at q; exact q
      | ex x l => rw [hr] at q; exact q
      | ok o l =>
        rw [hr] at q
        cases o with
        | nx ρ' => exact fun ow' σ' H' R' => ⟨ow', ρ', l, R', q⟩
        | ct ρ' => exact fun ow' σ' H' R' => ⟨ow', ρ', l, R', q⟩
        | bk ρ' => exact q
        | rt z => exact q
        | rz ρ' x => exact q
end

/-! ### what a for walks -/
def iSeqV (K : PySem.W.Frag) (tl : TE) : TI := fun σ H R => tl σ H fun x H1 => ∃ a xs, x = .ref a ∧ ((SqL K H1 a xs ∧ R (Itl K a) H1) ∨ (SqT K H1 a xs ∧ R (Itt K a) H1))
theorem pi_seqV {X : Cx} {tg l : Expr} {tl : TE} (hl : PE X l tl) : PI X tg l (iSeqV X.K tl) := by
  refine ⟨fun pins s σ H R I h0 => ?_⟩
  refine thn (hl.run pins s σ H _ I h0) fun v s1 ⟨x, H1, I1, r1, q1⟩ => ?_
  obtain ⟨a, xs, e, q1⟩ := q1
  subst e
  cases r1
  have fp : ∀ b ∈ [s1.heap.objs.size], FpOk X pins H1 b := fun b hb => by
    have e : b = s1.heap.objs.size := by simpa using hb
    subst e
    exact I1.fpOk (Nat.le_refl _) (I1.hok.fresh (Nat.le_refl _))
  rcases q1 with ⟨hq, q⟩ | ⟨hq, q⟩
  · obtain ⟨its, rv, p, hz⟩ := I1.list hq
    refine wpAny_pyIter_list p.isList ?_
    exact ⟨s1.heap.objs.size, [s1.heap.objs.size], _, _, H1, rfl, I1.kept (t' := s1.toks) fun b o e => Heap.get?_push_of_some _ e, turn_list a _, ⟨_, Heap.get?_push_size _ rfl, rfl, rfl⟩, fp, q⟩
  · obtain ⟨its, rv, p, hz⟩ := I1.tuple hq
    refine wpAny_pyIter_tuple (show s1.heap.IsTuple a its.toArray from p) ?_
    exact ⟨s1.heap.objs.size, [s1.heap.objs.size], _, _, H1, rfl, I1.kept (t' := s1.toks) fun b o e => Heap.get?_push_of_some _ e, turn_tuple a _, ⟨_, Heap.get?_push_size _ rfl, rfl, rfl⟩, fp, q⟩
def ItOk (bx : Bx) (S : Hp) (J : It) (ds : List D) : Prop := ∃ (G : Hp → Prop) (Y : Nat → Hp → V → Hp → Prop), Walk J ds.length G Y ∧ (∀ H, Same S H → G H) ∧
  ∀ (i : Nat) (H : Hp) (x : V) (H' : Hp), i < ds.length → Same S H → Y i H x H' → (H' = H ∧ ∃ d, ds[i]? = some d ∧ RD bx.K bx.sa S x d) ∨
    ∃ T x1 x2 d1 d2, x = .ref T ∧ H T = none ∧ H' = L2.upd H T (.tup [x1, x2]) ∧ ds[i]? = some (.tup [d1, d2]) ∧ RD bx.K bx.sa S x1 d1 ∧ RD bx.K bx.sa S x2 d2
def RunI (bx : Bx) (W : WX) (ow : List Addr) (σ : Sg) (H : Hp) (r : Res (List D)) (Q : It → Hp → Prop) : Prop := match r with
  | .bad => False
  | .ok ds ls' => ∀ J H', Kept bx H H' → LSR bx H' ls' → ItOk bx (mn bx.O ow H') J ds → Q J H'
  | .ex e ls' => ∀ cls dd H', XPost bx ow H e cls dd H' ls' → W cls dd σ H'
def tI (bx : Bx) (W : WX) (f : Env1 → M (List D)) : TI := fun σ H R => ∃ ow tmp ρ ls, Rel bx ow tmp ρ σ H ls ∧ RunI bx W ow σ H (f ρ ls) R
theorem RD.lstAt {K : PySem.W.Frag} {sa : Addr} {O : Addr → Bool} {ow : List Addr} {H : Hp} {v : V} {ds : List D} (r : RD K sa (mn O ow H) v (.lst ds)) : ∃ a xs, v = .ref a ∧ mn O ow H a = some (.lst xs) ∧ RDs K sa (mn O ow H) xs ds := by
  cases r with
  | lst h r => exact ⟨_, _, rfl, h, r⟩
theorem RD.tupAt {K : PySem.W.Frag} {sa : Addr} {H : Hp} {v : V} {ds : List D} (r : RD K sa H v (.tup ds)) : ∃ a xs, v = .ref a ∧ SqT K H a xs ∧ RDs K sa H xs ds := by
  cases r with
  | tup h r => exact ⟨_, _, rfl, h, r⟩
theorem RDs.idx {K : PySem.W.Frag} {sa : Addr} {H : Hp} {xs : List V} {ds : List D} (r : RDs K sa H xs ds) {i : Nat} (hi : i < ds.length) {x : V} (e : xs[i]? = some x) : ∃ d, ds[i]? = some d ∧ RD K sa H x d := by
  have hd : ds[i]? = some ds[i] := by simp [hi]
  obtain ⟨v, h1, h2⟩ := r.get hd
  rw [e] at h1
  cases h1
  exact ⟨_, hd, h2⟩
/-- plain walks -/
theorem it_plain {bx : Bx} {S : Hp} {J : It} {xs : List V} {ds : List D} {G : Hp → Prop} (w : Walk J xs.length G (YAt xs)) (hG : ∀ H, Same S H → G H) (r : RDs bx.K bx.sa S xs ds) : ItOk bx S J ds :=
  ⟨G, YAt xs, by rw [← r.length]; exact w, hG, fun i H x H' hi s y => .inl ⟨y.1, r.idx hi y.2⟩⟩
theorem it_pair {bx : Bx} {S : Hp} {J : It} {f g : Nat → Option V} {ds : List D} {G : Hp → Prop} (w : Walk J ds.length G (YPair f g)) (hG : ∀ H, Same S H → G H)
    (r : ∀ i x y, i < ds.length → f i = some x → g i = some y → ∃ d1 d2, ds[i]? = some (.tup [d1, d2]) ∧ RD bx.K bx.sa S x d1 ∧ RD bx.K bx.sa S y d2) : ItOk bx S J ds :=
  ⟨G, YPair f g, w, hG, fun i H x H' hi s y => by
    obtain ⟨T, a, b, h1, h2, h3, h4, h5⟩ := y
    obtain ⟨d1, d2, q1, q2, q3⟩ := r i a b hi h4 h5
    exact .inr ⟨T, a, b, d1, d2, h1, h2, h3, q1, q2, q3⟩⟩
/-- a list or a tuple -/
def seqO : D → Option (List D)
  | .lst ds => some ds
  | .tup ds => some ds
  | _ => none
def iSeq (f : Env1 → M (Fg × D)) : Env1 → M (List D) := fun ρ => M.bind (f ρ) fun z => if z.1 = .bo then M.bad else M.opt (seqO z.2)
def rngO : List D → Option (List D)
  | [.int j] => if -(2 ^ 62) ≤ j ∧ j < 2 ^ 62 then some ((List.range j.toNat).map fun (i : Nat) => D.int i) else none
  | [.int i, .int j] => if -(2 ^ 62) ≤ i ∧ i < 2 ^ 62 ∧ -(2 ^ 62) ≤ j ∧ j < 2 ^ 62 then some ((List.range (j - i).toNat).map fun (k : Nat) => D.int (i + k)) else none
  | _ => none
def iRng (f : Env1 → M (List D)) : Env1 → M (List D) := fun ρ => M.bind (f ρ) fun xs => M.opt (rngO xs)
/-- reversed(..) -/
def iRev (f : Env1 → M (Fg × D)) : Env1 → M (List D) := fun ρ => M.bind (f ρ) fun z => if z.1 = .bo then M.bad else M.opt ((seqO z.2).map List.reverse)
/-- enumerate(..), zip(.., ..) -/
def enumD : Nat → List D → List D
  | _, [] => []
  | i, d :: ds => .tup [.int i, d] :: enumD (i + 1) ds
def enumO : List D → Option (List D)
  | [d] => (seqO d).map (enumD 0)
  | _ => none
def zipO : List D → Option (List D)
  | [.lst xs, .lst ys] => some ((xs.zip ys).map fun p => .tup [p.1, p.2])
  | [.tup xs, .tup ys] => some ((xs.zip ys).map fun p => .tup [p.1, p.2])
  | _ => none
def iArg (o : List D → Option (List D)) (f : Env1 → M (List D)) : Env1 → M (List D) := fun ρ => M.bind (f ρ) fun xs => M.opt (o xs)
section
variable {X : Cx} {bx : Bx} {W : WX} {a b c e tg : Expr} {f g : Env1 → M (Fg × D)} {tc : Env1 → M Bool} {m n : SM} {pos : Pos} {st : Stmt} {sts : List Stmt}
theorem RunI.from {ow : List Addr} {σ : Sg} {H H1 : Hp} {r : Res (List D)} {Q : It → Hp → Prop} (k : Kept bx H H1) (h : RunI bx W ow σ H r Q) : RunI bx W ow σ H1 r Q := by
  cases r with
  | bad => exact h
  | ok ds l => exact fun J H2 k2 => h J H2 (k.trans k2)
  | ex x l => exact fun c d H2 P2 => h c d H2 (P2.from k)
theorem RunI.first {ow : List Addr} {tmp : List Hp} {ρ : Env1} {σ : Sg} {H : Hp} {ls : LS} {r : M (Fg × D)} {k : Fg × D → M (List D)} {Q : It → Hp → Prop} {Q' : VK} (h : RunI bx W ow σ H (M.bind r k ls) Q) (R : Rel bx ow tmp ρ σ H ls)
    (hk : ∀ v H1 z ls1, EPost bx ow H v H1 z.1 z.2 ls1 → Rel bx ow tmp ρ σ H1 ls1 → RunI bx W ow σ H1 (k z ls1) Q → Q' v H1) : RunE bx W ow σ H (r ls) Q' := by
  unfold M.bind at h
  cases e : r ls with
  | bad => rw [e] at h; exact h
  | ok z ls1 =>
    rw [e] at h
    exact fun v H1 P => hk v H1 z ls1 P (R.after P.kept P.lsr) (RunI.from P.kept h)
  | ex x ls1 => rw [e] at h; exact h
theorem RunI.args {ow : List Addr} {tmp : List Hp} {ρ : Env1} {σ : Sg} {H : Hp} {ls : LS} {r : M (List D)} {k : List D → M (List D)} {Q : It → Hp → Prop} {Q' : List V → Hp → Prop} (h : RunI bx W ow σ H (M.bind r k ls) Q) (R : Rel bx ow tmp ρ σ H ls)
    (hk : ∀ vs H1 ds ls1, RDs bx.K bx.sa (mn bx.O ow H1) vs ds → Rel bx ow tmp ρ σ H1 ls1 → RunI bx W ow σ H1 (k ds ls1) Q → Q' vs H1) : RunA bx W ow σ H (r ls) Q' := by
  unfold M.bind at h
  cases e : r ls with
  | bad => rw [e] at h; exact h
  | ok z ls1 =>
    rw [e] at h
    exact fun v H1 kk l rr => hk v H1 z ls1 rr (R.after kk l) (RunI.from kk h)
  | ex x ls1 => rw [e] at h; exact h
theorem optI {ow : List Addr} {σ : Sg} {H : Hp} {ls : LS} {z : Option (List D)} {Q : It → Hp → Prop} (h : RunI bx W ow σ H (M.opt z ls) Q) (l : LSR bx H ls) : ∃ ds, z = some ds ∧ ∀ J, ItOk bx (mn bx.O ow H) J ds → Q J H := by
  cases z with
  | none => exact (show False from h).elim
  | some ds => exact ⟨ds, rfl, fun J i => h J H Kept.refl l i⟩
theorem bi_seq (hK : bx.K = X.K) (ha : PE X a (tB bx W f)) : PI X tg a (tI bx W (iSeq f)) := by
  refine ⟨fun pins s σ H R I h => (pi_seqV ha).run pins s σ H R I ?_⟩
  obtain ⟨ow, tmp, ρ, ls, R1, h⟩ := h
  refine ⟨ow, tmp, ρ, ls, R1, RunI.first h R1 fun v H1 z ls1 P R2 q => ?_⟩
  by_cases nb : z.1 = .bo
  · rw [if_pos nb] at q; exact (show False from q).elim
  rw [if_neg nb] at q
  obtain ⟨ds, e, k0⟩ := optI q R2.lsr
  clear q
  have rd := P.rd R1.toBas nb
  obtain ⟨z1, z2⟩ := z
  cases z2 <;> simp only [seqO] at e <;> try (cases e; done)
  · cases e
    obtain ⟨p, xs, rfl, h1, r1⟩ := rd.tupAt
    exact ⟨p, xs, rfl, .inr ⟨hK ▸ Same.sqT mn_full h1, k0 _ (hK ▸ it_plain (bx := bx) walk_tup (fun H s => Same.sqT s h1) r1)⟩⟩
  · cases e
    obtain ⟨p, xs, rfl, h1, r1⟩ := rd.lstAt
    exact ⟨p, xs, rfl, .inl ⟨SqL.of (mn_some h1).1, k0 _ (it_plain walk_list (fun H s => SqL.of (s _ _ h1)) r1)⟩⟩
theorem bi_rev {p : Pos} (hK : bx.K = X.K) (hg : Gl X "reversed") (hm : X.mg "reversed" = none) (ha : PE X a (tB bx W f)) (hs : starEach [a] X.env = (false, eval a X.env) :: starEach [] X.env := by rfl) : PI X tg (.Call (.Name "reversed" p) [a] [] pos) (tI bx W (iRev f)) := by
  refine ⟨fun pins s σ H R I h => (RT.pi_revA hg hm ha hs).run pins s σ H R I ?_⟩
  obtain ⟨ow, tmp, ρ, ls, R1, h⟩ := h
  refine ⟨ow, tmp, ρ, ls, R1, RunI.first h R1 fun v H1 z ls1 P R2 q => ?_⟩
  by_cases nb : z.1 = .bo
  · rw [if_pos nb] at q; exact (show False from q).elim
  rw [if_neg nb] at q
  obtain ⟨ds, e, k0⟩ := optI q R2.lsr
  clear q
  have rd := P.rd R1.toBas nb
  obtain ⟨z1, z2⟩ := z
  have rv : ∀ (xs : List V) (ds : List D) (S : Hp), RDs bx.K bx.sa S xs ds → ∀ i x, i < ds.reverse.length → xs[xs.length - 1 - i]? = some x → ∃ d, ds.reverse[i]? = some d ∧ RD bx.K bx.sa S x d := fun xs ds S r i x hi e => by
    have hl := r.length
    have hi' : i < ds.length := by simpa using hi
    obtain ⟨d, h1, h2⟩ := r.idx (i := xs.length - 1 - i) (by omega) e
    exact ⟨d, by rw [List.getElem?_reverse hi', ← hl]; exact h1, h2⟩
  cases z2 <;> simp only [seqO, Option.map_none, Option.map_some] at e <;> try (cases e; done)
  · cases e
    obtain ⟨p, xs, rfl, h1, r1⟩ := rd.tupAt
    refine ⟨p, xs, rfl, .inr ⟨hK ▸ Same.sqT mn_full h1, k0 _ ⟨fun H => SqT X.K H p xs, fun i H x H' => H' = H ∧ xs[xs.length - 1 - i]? = some x, ?_, fun H s => hK ▸ Same.sqT s h1, fun i H x H' hi s y => .inl ⟨y.1, rv _ _ _ r1 i x hi y.2⟩⟩⟩⟩
    rw [List.length_reverse, ← r1.length]
    exact ⟨fun i _ hi q => ⟨hi, xs, xs[xs.length - 1 - i]'(by omega), q, by simp [show xs.length - 1 - i < xs.length by omega]⟩, fun _ _ => Nat.le_refl _, fun _ _ _ _ _ q y => ⟨y.1, y.2 xs q⟩⟩
  · cases e
    obtain ⟨p, xs, rfl, h1, r1⟩ := rd.lstAt
    have w := walk_rev (K := X.K) (a := p) (xs := xs)
    refine ⟨p, xs, rfl, .inl ⟨SqL.of (mn_some h1).1, k0 _ ⟨fun H => SqL X.K H p xs, fun i H x H' => H' = H ∧ xs[xs.length - 1 - i]? = some x, by rw [List.length_reverse, ← r1.length]; exact w, fun H s => SqL.of (s _ _ h1), fun i H x H' hi s y => .inl ⟨y.1, rv _ _ _ r1 i x hi y.2⟩⟩⟩⟩
theorem rng1_inv {ds es : List D} (h0 : (fun ds : List D => if ds.length = 1 then rngO ds else none) ds = some es) : ∃ j : Int, ds = [.int j] ∧ (-(2 ^ 62) ≤ j ∧ j < 2 ^ 62) ∧ es = (List.range j.toNat).map fun (i : Nat) => D.int i := by
  have e : (if ds.length = 1 then rngO ds else none) = some es := h0
  split at e
  · rename_i hl
    match ds, hl with
    | [d], _ =>
      cases d <;> simp only [rngO] at e <;> try (cases e; done)
      split at e
      · cases e; exact ⟨_, rfl, by assumption, rfl⟩
      · cases e
  · cases e
theorem rng2_inv {ds es : List D} (h0 : (fun ds : List D => if ds.length = 2 then rngO ds else none) ds = some es) : ∃ i j : Int, ds = [.int i, .int j] ∧ (-(2 ^ 62) ≤ i ∧ i < 2 ^ 62 ∧ -(2 ^ 62) ≤ j ∧ j < 2 ^ 62) ∧ es = (List.range (j - i).toNat).map fun (k : Nat) => D.int (i + k) := by
  have e : (if ds.length = 2 then rngO ds else none) = some es := h0
  split at e
  · rename_i hl
    match ds, hl with
    | [d, d'], _ =>
      cases d <;> cases d' <;> simp only [rngO] at e <;> try (cases e; done)
      split at e
      · cases e; exact ⟨_, _, rfl, by assumption, rfl⟩
      · cases e
  · cases e
theorem it_rng (S : Hp) (i : Int) (n : Nat) : ItOk bx S (Itr i n) ((List.range n).map fun (k : Nat) => D.int (i + k)) := by
  refine ⟨_, _, by rw [List.length_map, List.length_range]; exact walk_range, fun _ _ => trivial, fun k H x H' hi s y => ?_⟩
  obtain ⟨rfl, rfl⟩ := y
  have hi' : k < n := by simpa using hi
  exact .inl ⟨rfl, .int (i + k), by simp [hi'], .int _⟩
theorem bi_rng1 {p : Pos} {t : Env1 → M (List D)} (hg : Gl X "range") (hm : X.mg "range" = none) (ha : PA X [a] (tA bx W t)) (hs : starEach [a] X.env = [(false, eval a X.env)] := by rfl) : PI X tg (.Call (.Name "range" p) [a] [] pos) (tI bx W (iArg (fun ds => if ds.length = 1 then rngO ds else none) t)) := by
  refine ⟨fun pins s σ H R I h => (pi_range1 hg hm ha hs).run pins s σ H R I ?_⟩
  obtain ⟨ow, tmp, ρ, ls, R1, h⟩ := h
  refine ⟨ow, tmp, ρ, ls, R1, RunI.args h R1 fun vs H1 ds ls1 r1 R2 q => ?_⟩
  obtain ⟨es, e, k0⟩ := optI q R2.lsr
  obtain ⟨j, rfl, hj, rfl⟩ := rng1_inv e
  obtain ⟨v, rfl, rv⟩ := r1.one_inv
  cases rv
  refine ⟨j, rfl, hj.1, hj.2, k0 _ ?_⟩
  have := it_rng (bx := bx) (mn bx.O ow H1) 0 j.toNat
  simpa using this
theorem bi_rng2 {p : Pos} {t : Env1 → M (List D)} (hg : Gl X "range") (hm : X.mg "range" = none) (ha : PA X [a, b] (tA bx W t)) (hs : starEach [a, b] X.env = [(false, eval a X.env), (false, eval b X.env)] := by rfl) (hs2 : starEach [b] X.env = [(false, eval b X.env)] := by rfl) :
    PI X tg (.Call (.Name "range" p) [a, b] [] pos) (tI bx W (iArg (fun ds => if ds.length = 2 then rngO ds else none) t)) := by
  refine ⟨fun pins s σ H R I h => (pi_range2 hg hm ha hs hs2).run pins s σ H R I ?_⟩
  obtain ⟨ow, tmp, ρ, ls, R1, h⟩ := h
  refine ⟨ow, tmp, ρ, ls, R1, RunI.args h R1 fun vs H1 ds ls1 r1 R2 q => ?_⟩
  obtain ⟨es, e, k0⟩ := optI q R2.lsr
  obtain ⟨i0, j, rfl, hj, rfl⟩ := rng2_inv e
  cases r1 with
  | cons ra r1 =>
  obtain ⟨v, rfl, rv⟩ := r1.one_inv
  cases rv
  cases ra
  exact ⟨i0, j, rfl, hj, k0 _ (it_rng _ _ _)⟩
theorem enumD_length : ∀ (i : Nat) (ds : List D), (enumD i ds).length = ds.length
  | _, [] => rfl
  | i, d :: ds => by rw [enumD, List.length_cons, List.length_cons, enumD_length]
theorem enumD_get : ∀ (i : Nat) (ds : List D) (j : Nat) (d : D), ds[j]? = some d → (enumD i ds)[j]? = some (.tup [.int ((i + j : Nat) : Int), d])
  | _, [], _, _, h => by simp at h
  | i, d :: ds, 0, e, h => by simp at h; subst h; simp [enumD]
  | i, d :: ds, j + 1, e, h => by
    have := enumD_get (i + 1) ds j e (by simpa using h)
    rw [enumD, List.getElem?_cons_succ, this]
    congr 4
    omega
theorem bi_enum {p tpos : Pos} {elts : List Expr} {kk : Nat} {t : Env1 → M (List D)} (hK : bx.K = X.K) (hg : Gl X "enumerate") (hm : X.mg "enumerate" = none) (ha : PA X [e] (tA bx W t)) (hs : starEach [e] X.env = [(false, eval e X.env)] := by rfl) :
    PI X (.Tuple elts kk tpos) (.Call (.Name "enumerate" p) [e] [] pos) (tI bx W (iArg enumO t)) := by
  refine ⟨fun pins s σ H R I h => (pi_enumB hg hm ha hs).run pins s σ H R I ?_⟩
  obtain ⟨ow, tmp, ρ, ls, R1, h⟩ := h
  refine ⟨ow, tmp, ρ, ls, R1, RunI.args h R1 fun vs H1 ds ls1 r1 R2 q => ?_⟩
  obtain ⟨es, e0, k0⟩ := optI q R2.lsr
  clear q
  match ds, e0 with
  | [d], e0 =>
    simp only [enumO] at e0
    obtain ⟨zs, e1, rfl⟩ := Option.map_eq_some_iff.mp e0
    obtain ⟨v, rfl, rv⟩ := r1.one_inv
    have pr : ∀ (xs : List V) (S : Hp), RDs bx.K bx.sa S xs zs → ∀ i x y, i < (enumD 0 zs).length → some (V.int (i : Nat)) = some x → xs[i]? = some y → ∃ d1 d2, (enumD 0 zs)[i]? = some (.tup [d1, d2]) ∧ RD bx.K bx.sa S x d1 ∧ RD bx.K bx.sa S y d2 := fun xs S r i x y hi e2 e3 => by
      rw [enumD_length] at hi
      obtain ⟨d, h1, h2⟩ := r.idx hi e3
      cases e2
      refine ⟨_, d, enumD_get 0 zs i d h1, ?_, h2⟩
      rw [Nat.zero_add]
      exact .int _
    cases d <;> simp only [seqO] at e1 <;> try (cases e1; done)
    · cases e1
      obtain ⟨p, xs, rfl, h1, r1⟩ := rv.tupAt
      have w := walk_enT (K := X.K) (a := p) (xs := xs)
      rw [r1.length, ← enumD_length 0 zs] at w
      exact ⟨p, xs, rfl, .inr ⟨hK ▸ Same.sqT mn_full h1, k0 _ (it_pair w (fun H s => hK ▸ Same.sqT s h1) (pr _ _ r1))⟩⟩
    · cases e1
      obtain ⟨p, xs, rfl, h1, r1⟩ := rv.lstAt
      have w := walk_enum (K := X.K) (a := p) (xs := xs)
      rw [r1.length, ← enumD_length 0 zs] at w
      exact ⟨p, xs, rfl, .inl ⟨SqL.of (mn_some h1).1, k0 _ (it_pair w (fun H s => SqL.of (s _ _ h1)) (pr _ _ r1))⟩⟩
  | [], e0 => simp [enumO] at e0
  | _ :: _ :: _, e0 => simp [enumO] at e0
end
end BL
end

section
set_option Elab.async false
set_option linter.all false
set_option maxRecDepth 100000
set_option maxHeartbeats 4000000
namespace BL
open PySem PySem.Spec PyProof.Rows L2

/-! ### targets -/
abbrev Tg := D → Env1 → Option Env1
structure TgS (bx : Bx) (g : TG) (bt : Tg) (is : List Nat) : Prop where
  run : ∀ {ow : List Addr} {tmp : List Hp} {ρ ρ' : Env1} {σ : Sg} {H : Hp} {ls : LS} {x : V} {d : D} {Q : Sg → Hp → Prop}, Rel bx ow tmp ρ σ H ls → RD bx.K bx.sa (mn bx.O ow H) x d → bt d ρ = some ρ' →
    (∀ σ', Rel bx ow tmp ρ' σ' H ls → (∀ vs : List Nat, (∀ i ∈ is, i ∈ vs) → wipe σ' vs = wipe σ vs) → Q σ' H) → g x σ H Q
def tgN (i : Nat) : Tg := fun d ρ => some (ρ.set i (some (false, d)))
def tgT (is : List Nat) : Tg := fun d ρ => match d with
  | .tup ds => if ds.length = is.length then some (setAll ρ is ds) else none
  | _ => none
theorem wipe_set {σ : Sg} {i : Nat} {x : Option V} : ∀ {vs : List Nat}, i ∈ vs → wipe (σ.set i x) vs = wipe σ vs
  | v :: vs, m => by
    unfold wipe
    by_cases e : i ∈ vs
    · rw [wipe_set e]
    · have e2 : i = v := (List.mem_cons.mp m).resolve_right e
      subst e2
      rw [wipe_setN e, List.set_set]
where wipe_setN {σ : Sg} {i : Nat} {x : Option V} : ∀ {vs : List Nat}, i ∉ vs → wipe (σ.set i x) vs = (wipe σ vs).set i x
  | [], _ => rfl
  | v :: vs, h => by
    unfold wipe
    rw [wipe_setN fun z => h (List.mem_cons_of_mem _ z), List.set_comm]
    exact fun z => h (z ▸ List.mem_cons_self)
theorem tg_name {bx : Bx} {i : Nat} : TgS bx (gName i) (tgN i) [i] := ⟨fun R r e q => by
  cases e
  exact q _ (R.set i r) fun vs h => wipe_set (h i (by simp))⟩
theorem gNs_run {bx : Bx} {ow : List Addr} {tmp : List Hp} {H : Hp} {ls : LS} : ∀ {is : List Nat} {vs : List V} {ds : List D} {ρ : Env1} {σ : Sg} {Q : Sg → Hp → Prop}, Rel bx ow tmp ρ σ H ls → RDs bx.K bx.sa (mn bx.O ow H) vs ds → ds.length = is.length →
    (∀ σ', Rel bx ow tmp (BL.setAll ρ is ds) σ' H ls → (∀ vs : List Nat, (∀ i ∈ is, i ∈ vs) → wipe σ' vs = wipe σ vs) → Q σ' H) → gNs is vs σ H Q
  | [], _, _, ρ, σ, Q, R, .nil, _, q => ⟨rfl, q σ R fun _ _ => rfl⟩
  | i :: is, _, _, ρ, σ, Q, R, .cons (v := v) (vs := vs) a r, hl, q => ⟨v, vs, rfl, gNs_run (R.set i a) r (by simpa using hl) fun σ' R' hw => q σ' R' fun us h => by
      rw [hw us fun j hj => h j (List.mem_cons_of_mem _ hj)]
      exact wipe_set (h i List.mem_cons_self)⟩
  | [], _, _, _, _, _, _, .cons _ _, hl, _ => by simp at hl
  | _ :: _, _, _, _, _, _, _, .nil, hl, _ => by simp at hl
theorem tg_tup {bx : Bx} {K : PySem.W.Frag} {n : Nat} {is : List Nat} (hK : bx.K = K) (hn : n = is.length) : TgS bx (gTup K n (gNs is)) (tgT is) is := ⟨fun {ow tmp ρ ρ' σ H ls x d Q} R r e q => by
  cases d <;> simp only [tgT] at e <;> try (cases e; done)
  split at e
  · rename_i hl
    cases e
    obtain ⟨p, xs, rfl, h1, r1⟩ := r.tupAt
    exact ⟨p, xs, rfl, hK ▸ Same.sqT mn_full h1, by rw [r1.length, hl, hn], gNs_run R r1 hl q⟩
  · cases e⟩

/-! ### for -/
def forL (bt : Tg) (m : SM) : List D → SM
  | [] => fun ρ ls => .ok (.nx ρ) ls
  | d :: ds => fun ρ ls => match bt d ρ with
    | none => .bad
    | some ρ1 => match m ρ1 ls with
      | .ok (.nx ρ') ls2 => forL bt m ds ρ' ls2
      | .ok (.ct ρ') ls2 => forL bt m ds ρ' ls2
      | .ok (.bk ρ') ls2 => .ok (.nx ρ') ls2
      | r => r
def sFor (f : Env1 → M (List D)) (bt : Tg) (m : SM) : SM := fun ρ ls => stE (f ρ ls) ρ fun ds ls1 => forL bt m ds ρ ls1
/-- what a turn gives -/
theorem ItOk.turn {bx : Bx} {S : Hp} {ds : List D} {Y : Nat → Hp → V → Hp → Prop}
    (y : ∀ (i : Nat) (H : Hp) (x : V) (H' : Hp), i < ds.length → Same S H → Y i H x H' → (H' = H ∧ ∃ d, ds[i]? = some d ∧ RD bx.K bx.sa S x d) ∨
      ∃ T x1 x2 d1 d2, x = .ref T ∧ H T = none ∧ H' = L2.upd H T (.tup [x1, x2]) ∧ ds[i]? = some (.tup [d1, d2]) ∧ RD bx.K bx.sa S x1 d1 ∧ RD bx.K bx.sa S x2 d2)
    {ow : List Addr} {tmp : List Hp} {ρ : Env1} {σ : Sg} {H H' : Hp} {ls : LS} {i : Nat} {x : V} (R : Rel bx ow (S :: tmp) ρ σ H ls) (hi : i < ds.length) (h : Y i H x H') : ∃ d, ds[i]? = some d ∧ Rel bx ow (S :: tmp) ρ σ H' ls ∧ RD bx.K bx.sa (mn bx.O ow H') x d := by
  have sS : Same S (mn bx.O ow H) := R.tm S List.mem_cons_self
  rcases y i H x H' hi (sS.trans mn_full) h with ⟨rfl, d, h1, h2⟩ | ⟨T, x1, x2, d1, d2, rfl, h1, rfl, h2, h3, h4⟩
  · exact ⟨d, h1, R, h2.mono sS⟩
  · have P : EPost bx ow H (.ref T) (L2.upd H T (.tup [x1, x2])) .sh (.tup [d1, d2]) ls := EPost.tup R.toBas h1 (.cons (h3.mono sS) (.cons (h4.mono sS) .nil))
    exact ⟨_, h2, R.after P.kept P.lsr, P.val⟩
section
variable {X : Cx} {bx : Bx} {W : WX} {a b c e tg itr : Expr} {f g : Env1 → M (Fg × D)} {fi : Env1 → M (List D)} {tc : Env1 → M Bool} {m n : SM} {pos : Pos} {st : Stmt} {sts : List Stmt} {tgr : TG} {bt : Tg} {is : List Nat}
theorem RunS.iter {D : Ends} {ow : List Addr} {tmp : List Hp} {ρ : Env1} {σ : Sg} {H : Hp} {ls : LS} {r : Res (List BL.D)} {k : List BL.D → LS → Res Oc} {Q' : It → Hp → Prop} (h : RunS bx W tmp D (stE r ρ k)) (R : Rel bx ow tmp ρ σ H ls)
    (hk : ∀ J H1 ds ls1, ItOk bx (mn bx.O ow H1) J ds → Rel bx ow tmp ρ σ H1 ls1 → RunS bx W tmp D (k ds ls1) → Q' J H1) : RunI bx W ow σ H r Q' := by
  cases r with
  | bad => exact h
  | ok ds ls1 => exact fun J H1 kk l i => hk J H1 ds ls1 i (R.after kk l) h
  | ex x ls1 => exact ex_of R h
theorem bs_for (hp : PassesOwn (model X.prog X.w) X.A X.env X.xe) (hc : X.calm = true) (hi : PI X tg itr (tI bx W fi)) (hg : PG X tg tgr) (ht : TgS bx tgr bt is) (hb : PSs X sts (sB bx W m)) (hs : ∀ x, foldedSetIterable itr X.env x = pure x := by intro _; rfl) : PS X (.For tg itr sts [] pos) (sB bx W (sFor fi bt m)) := by
  refine PS.imp (ps_for hp hc hi hg hb hs) fun D σ H h => ?_
  obtain ⟨ow, tmp, ρ, ls, R, h⟩ := h
  refine ⟨ow, tmp, ρ, ls, R, RunS.iter h R fun J H1 ds ls1 ok R1 q => ?_⟩
  obtain ⟨G, Y, w, hG, hY⟩ := ok
  refine for_it w (fun i σ H => ∃ ow' ρ ls, Rel bx ow' (mn bx.O ow H1 :: tmp) ρ σ H ls ∧ RunS bx W tmp D (forL bt m (ds.drop i) ρ ls)) ⟨ow, ρ, ls1, R1.pin, q⟩ (fun i σ H _ ⟨ow', ρ, ls, R', _⟩ => hG H ((R'.tm _ List.mem_cons_self).trans mn_full)) (fun i x σ H H' hlt ⟨ow', ρ, ls, R', q'⟩ y => ?_) fun σ H ⟨ow', ρ, ls, R', q'⟩ => ?_
  · obtain ⟨d, h1, R2, rd⟩ := ItOk.turn hY R' hlt y
    have e1 : ds.drop i = d :: ds.drop (i + 1) := by
      rw [List.drop_eq_getElem_cons hlt]
      rw [List.getElem?_eq_getElem hlt] at h1
      rw [Option.some.inj h1]
    rw [e1] at q'
    unfold forL at q'
    cases e2 : bt d ρ with
    | none => simp only [e2] at q'; exact (show False from q').elim
    | some ρ1 =>
      simp only [e2] at q'
      refine ht.run R2 rd e2 fun σ' R3 _ => ⟨ow', _, ρ1, ls, R3, ?_⟩
      cases hr : m ρ1 ls with
      | bad => rw [hr] at q'; exact q'
      | ex z l => rw [hr] at q'; exact q'
      | ok o l =>
        rw [hr] at q'
        cases o with
        | nx ρ2 => exact fun ow2 σ2 H2 R4 => ⟨ow2, ρ2, l, R4, q'⟩
        | ct ρ2 => exact fun ow2 σ2 H2 R4 => ⟨ow2, ρ2, l, R4, q'⟩
        | bk ρ2 => exact fun ow2 σ2 H2 R4 => q' ow2 σ2 H2 R4.tail
        | rt z => exact q'
        | rz ρ2 z => exact fun ow2 σ2 H2 cls dd R4 => q' ow2 σ2 H2 cls dd R4.tail
  · have e1 : ds.drop ds.length = [] := List.drop_length
    rw [e1] at q'
    exact q' ow' σ H R'.tail
end

/-! ### comprehensions -/
theorem Bas.change {bx : Bx} {ow : List Addr} {H : Hp} {ls : LS} (b : Bas bx ow H ls) {p : Addr} (m : p ∈ ow) (o : HO) : Bas bx ow (L2.upd H p o) ls := by
  have hS := b.notS m
  refine ⟨fun a ma => ?_, ?_, b.sO, b.oD, b.cO, ?_⟩
  · obtain ⟨h1, h2, h3⟩ := b.fr a ma
    refine ⟨h1, h2, ?_⟩
    by_cases ea : a = p
    · subst ea; rw [upd_same]; simp
    · rw [upd_ne ea]; exact h3
  · intro a u h1 h2
    have ea : a ≠ p := fun z => by
      subst z
      rw [(b.fr a m).1] at h1; cases h1
    rw [upd_ne ea]
    exact b.kept a u h1 h2
  · have l := b.lsr
    have hne : ∀ a u, H a = some u → bx.H0 a ≠ none ∨ bx.S a = true → a ≠ p := fun a u h1 h2 z => by
      subst z
      rcases h2 with h2 | h2
      · exact h2 (b.fr a m).1
      · rw [hS] at h2; cases h2
    unfold LSR at l ⊢
    split
    · rename_i es; rw [es] at l; exact l
    · rename_i ca la es
      rw [es] at l
      obtain ⟨a0, a1, a2, a3, a4, a5, a6, a7, a8, a9, a10⟩ := l
      have s1 : bx.S bx.sa = true := by unfold Bx.S; rw [es]; simp
      have s2 : bx.S la = true := by unfold Bx.S; rw [es]; simp
      have hca : ca ≠ p := hne _ _ a9 (.inl (b.oD _ (b.cO ca la es)))
      refine ⟨a0, a1, a2, a3, a4, a5, a6, a7, ?_, ?_, ?_⟩
      · rw [upd_ne (hne _ _ a8 (.inr s1))]; exact a8
      · rw [upd_ne hca]; exact a9
      · rw [upd_ne (hne _ _ a10 (.inr s2))]; exact a10
theorem Rel.chg {bx : Bx} {ow : List Addr} {tmp : List Hp} {ρ : Env1} {σ : Sg} {H : Hp} {ls : LS} (R : Rel bx ow tmp ρ σ H ls) {p : Addr} (m : p ∈ ow) (hn : ∀ (j : Nat) (e : D), ρ[j]? = some (some (true, e)) → σ[j]? ≠ some (some (V.ref p))) (o : HO) : Rel bx ow tmp ρ σ (L2.upd H p o) ls := by
  have sm : Same (mn bx.O ow H) (mn bx.O ow (L2.upd H p o)) := mn_congr m
  refine ⟨R.toBas.change m o, R.len, fun j e h => ?_, fun j e h => ?_, R.inj, fun h mh => (R.tm h mh).trans sm⟩
  · obtain ⟨u, h3, h4⟩ := R.sh j e h
    exact ⟨u, h3, h4.mono sm⟩
  · obtain ⟨q, h3, h4, h5⟩ := R.own j e h
    have hq : q ≠ p := fun z => hn j e h (by rw [← z]; exact h4)
    refine ⟨q, h3, h4, ?_⟩
    cases e with
    | lst ds => obtain ⟨vs, g1, g2⟩ := h5; exact ⟨vs, by rw [upd_ne hq]; exact g1, g2.mono sm⟩
    | dk ds => obtain ⟨vs, g1, g2⟩ := h5; exact ⟨vs, by rw [upd_ne hq]; exact g1, g2.mono sm⟩
    | _ => exact h5.elim
theorem wipe_wipe {σ : Sg} : ∀ vs : List Nat, L2.wipe (L2.wipe σ vs) vs = L2.wipe σ vs
  | [] => rfl
  | v :: vs => by
    have e1 : L2.wipe σ (v :: vs) = (L2.wipe σ vs).set v none := rfl
    rw [e1, wipe_set List.mem_cons_self]
    show (L2.wipe (L2.wipe σ vs) vs).set v none = _
    rw [wipe_wipe vs]
def wipe1 (ρ : Env1) : List Nat → Env1
  | [] => ρ
  | v :: vs => (wipe1 ρ vs).set v none
def noex {α : Type} (m : M α) : M α := fun ls => match m ls with
  | .ex _ _ => .bad
  | r => r
def lcL (bt : Tg) (c : Env1 → M Bool) (f : Env1 → M (Fg × D)) (ρ : Env1) : List D → List D → M (List D)
  | [], acc => M.pure acc
  | d :: ds, acc => match bt d ρ with
    | none => M.bad
    | some ρ1 => M.bind (noex (c ρ1)) fun b => if b = true then (M.bind (noex (f ρ1)) fun z => if z.1 = .bo then M.bad else if acc.length < sizeLine then lcL bt c f ρ ds (acc ++ [z.2]) else M.bad) else lcL bt c f ρ ds acc
def eLc (fi : Env1 → M (List D)) (bt : Tg) (c : Env1 → M Bool) (f : Env1 → M (Fg × D)) (own : List Nat) : Env1 → M (Fg × D) := fun ρ => M.bind (fi ρ) fun ds => M.bind (lcL bt c f (wipe1 ρ own) ds []) fun acc => M.pure (.fr, .lst acc)
def bYes : Env1 → M Bool := fun _ => M.pure true
theorem Rel.wipe {bx : Bx} {ow : List Addr} {tmp : List Hp} {ρ : Env1} {σ : Sg} {H : Hp} {ls : LS} (R : Rel bx ow tmp ρ σ H ls) : ∀ vs : List Nat, Rel bx ow tmp (wipe1 ρ vs) (L2.wipe σ vs) H ls
  | [] => R
  | v :: vs => by
    have R1 := R.wipe vs
    unfold wipe1 L2.wipe
    refine ⟨R1.toBas, by rw [List.length_set, List.length_set, R1.len], fun j e h => ?_, fun j e h => ?_, fun j k d1 d2 p h1 h2 h3 h4 => ?_, R1.tm⟩
    · rcases gset h with ⟨rfl, h1, h2⟩ | ⟨h1, h2⟩
      · cases h1
      · obtain ⟨u, h3, h4⟩ := R1.sh j e h2
        exact ⟨u, by rw [List.getElem?_set_ne h1]; exact h3, h4⟩
    · rcases gset h with ⟨rfl, h1, h2⟩ | ⟨h1, h2⟩
      · cases h1
      · obtain ⟨u, h3, h4, h5⟩ := R1.own j e h2
        exact ⟨u, h3, by rw [List.getElem?_set_ne h1]; exact h4, h5⟩
    · rcases gset h1 with ⟨rfl, z, _⟩ | ⟨n1, g1⟩
      · cases z
      rcases gset h2 with ⟨rfl, z, _⟩ | ⟨n2, g2⟩
      · cases z
      rw [List.getElem?_set_ne n1] at h3
      rw [List.getElem?_set_ne n2] at h4
      exact R1.inj j k d1 d2 p g1 g2 h3 h4
abbrev WF : WX := fun _ _ _ _ => False
section
variable {X : Cx} {bx : Bx} {W : WX} {a b c e tg itr elt : Expr} {f g : Env1 → M (Fg × D)} {fi : Env1 → M (List D)} {tc : Env1 → M Bool} {m n : SM} {pos : Pos} {tgr : TG} {bt : Tg} {is : List Nat}
theorem RunE.iters {ow : List Addr} {tmp : List Hp} {ρ : Env1} {σ : Sg} {H : Hp} {ls : LS} {r : M (List D)} {k : List D → M (Fg × D)} {Q : VK} {Q' : It → Hp → Prop} (h : RunE bx W ow σ H (M.bind r k ls) Q) (R : Rel bx ow tmp ρ σ H ls)
    (hk : ∀ J H1 ds ls1, ItOk bx (mn bx.O ow H1) J ds → Rel bx ow tmp ρ σ H1 ls1 → RunE bx W ow σ H1 (k ds ls1) Q → Q' J H1) : RunI bx W ow σ H (r ls) Q' := by
  unfold M.bind at h
  cases e : r ls with
  | bad => rw [e] at h; exact h
  | ok z ls1 =>
    rw [e] at h
    exact fun J H1 kk l i => hk J H1 z ls1 i (R.after kk l) (RunE.shift h R.toBas kk l)
  | ex x ls1 => rw [e] at h; exact h
theorem noex_bind {α β : Type} {m : M α} {k : α → M β} {ls : LS} : M.bind (noex m) k ls = match m ls with
    | .bad => .bad
    | .ok a s => k a s
    | .ex _ _ => .bad := by
  unfold M.bind noex
  cases m ls <;> rfl
theorem lc_imp {vs : List Nat} (ht : TgS bx tgr bt is) (hsub : ∀ i ∈ is, i ∈ vs) {σ : Sg} {H : Hp} {Q : VK} (h : tB bx W (eLc fi bt tc f vs) σ H Q) : tLc (tI bx W fi) tgr (tT bx WF tc) (tB bx WF f) vs σ H Q := by
  obtain ⟨ow, tmp, ρ, ls, R, h⟩ := h
  refine ⟨ow, tmp, ρ, ls, R, RunE.iters h R fun J H1 ds ls1 ok R1 q D hD => ?_⟩
  obtain ⟨G, Y, w, hG, hY⟩ := ok
  have R2 : Rel bx (D :: ow) (mn bx.O ow H1 :: tmp) ρ σ (L2.upd H1 D (.lst [])) ls1 := by
    have R3 := R1.pin.grow (Kept.new (o := .lst []) hD) (R1.lsr.new hD) hD (by rw [upd_same]; simp)
    exact R3
  have nS := (R1.dom hD).2.2.1
  refine lc_it w (fun i H => ∃ ls acc xs, Rel bx (D :: ow) (mn bx.O ow H1 :: tmp) (wipe1 ρ vs) (L2.wipe σ vs) H ls ∧ H D = some (.lst xs) ∧ RDs bx.K bx.sa (mn bx.O (D :: ow) H) xs acc ∧ Kept bx H1 H ∧
    RunE bx W ow σ H1 (M.bind (lcL bt tc f (wipe1 ρ vs) (ds.drop i) acc) (fun acc => M.pure (.fr, .lst acc)) ls) Q) ⟨ls1, [], [], R2.wipe vs, upd_same, .nil, Kept.new hD, q⟩
    (fun i H _ ⟨ls, acc, xs, R', _⟩ => hG H ((R'.tm _ List.mem_cons_self).trans mn_full)) (fun i x H H' hlt ⟨ls, acc, xs, R', hx, ra, kk, q'⟩ y => ?_) fun H ⟨ls, acc, xs, R', hx, ra, kk, q'⟩ => ?_
  · obtain ⟨d, h1, R3, rd⟩ := ItOk.turn hY R' hlt y
    have e1 : ds.drop i = d :: ds.drop (i + 1) := by
      rw [List.drop_eq_getElem_cons hlt]
      rw [List.getElem?_eq_getElem hlt] at h1
      rw [Option.some.inj h1]
    -- the pair that the turn may have laid
    have kH : Kept bx H H' := by
      rcases hY i H x H' hlt ((R'.tm _ List.mem_cons_self).trans mn_full) y with ⟨rfl, _⟩ | ⟨T, x1, x2, d1, d2, rfl, hT, rfl, _⟩
      · exact Kept.refl
      · exact Kept.new hT
    have hx' : H' D = some (.lst xs) := kH D _ hx nS
    have ra' := ra.mono (kH.mn R'.toBas)
    have kk' := kk.trans kH
    rw [e1] at q'
    unfold lcL at q'
    cases e2 : bt d (wipe1 ρ vs) with
    | none => simp only [e2] at q'; exact (show False from q').elim
    | some ρ1 =>
      simp only [e2] at q'
      refine ht.run R3 rd e2 fun σ' R4 hw => ⟨(hw vs hsub).trans (wipe_wipe vs), D :: ow, _, ρ1, ls, R4, ?_⟩
      rw [show M.bind (M.bind (noex (tc ρ1)) fun b => if b = true then (M.bind (noex (f ρ1)) fun z => if z.1 = .bo then M.bad else if acc.length < sizeLine then lcL bt tc f (wipe1 ρ vs) (ds.drop (i + 1)) (acc ++ [z.2]) else M.bad) else lcL bt tc f (wipe1 ρ vs) (ds.drop (i + 1)) acc) (fun acc => M.pure (Fg.fr, BL.D.lst acc)) ls =
        M.bind (noex (tc ρ1)) (fun b => M.bind (if b = true then (M.bind (noex (f ρ1)) fun z => if z.1 = .bo then M.bad else if acc.length < sizeLine then lcL bt tc f (wipe1 ρ vs) (ds.drop (i + 1)) (acc ++ [z.2]) else M.bad) else lcL bt tc f (wipe1 ρ vs) (ds.drop (i + 1)) acc) (fun acc => M.pure (Fg.fr, BL.D.lst acc))) ls from by
          unfold M.bind; cases noex (tc ρ1) ls <;> rfl, noex_bind] at q'
      cases e3 : tc ρ1 ls with
      | bad => rw [e3] at q'; exact (show False from q').elim
      | ex z l => rw [e3] at q'; exact (show False from q').elim
      | ok t l =>
        rw [e3] at q'
        intro H3 k3 l3
        have R5 := R4.after k3 l3
        have hx3 : H3 D = some (.lst xs) := k3 D _ hx' nS
        have ra3 := ra'.mono (k3.mn R4.toBas)
        cases t with
        | false =>
          rw [if_neg (by decide)]
          have q' : RunE bx W ow σ H1 (M.bind (lcL bt tc f (wipe1 ρ vs) (ds.drop (i + 1)) acc) (fun acc => M.pure (.fr, .lst acc)) l) Q := q'
          exact ⟨l, acc, xs, R3.after k3 l3, hx3, ra3, kk'.trans k3, q'⟩
        | true =>
          rw [if_pos rfl]
          have q' : RunE bx W ow σ H1 (M.bind (M.bind (noex (f ρ1)) fun z => if z.1 = .bo then M.bad else if acc.length < sizeLine then lcL bt tc f (wipe1 ρ vs) (ds.drop (i + 1)) (acc ++ [z.2]) else M.bad) (fun acc => M.pure (Fg.fr, BL.D.lst acc)) l) Q := q'
          rw [show M.bind (M.bind (noex (f ρ1)) fun z => if z.1 = .bo then M.bad else if acc.length < sizeLine then lcL bt tc f (wipe1 ρ vs) (ds.drop (i + 1)) (acc ++ [z.2]) else M.bad) (fun acc => M.pure (Fg.fr, BL.D.lst acc)) l =
            M.bind (noex (f ρ1)) (fun z => M.bind (if z.1 = .bo then M.bad else if acc.length < sizeLine then lcL bt tc f (wipe1 ρ vs) (ds.drop (i + 1)) (acc ++ [z.2]) else M.bad) (fun acc => M.pure (Fg.fr, BL.D.lst acc))) l from by
              unfold M.bind; cases noex (f ρ1) l <;> rfl, noex_bind] at q'
          refine ⟨D :: ow, _, ρ1, l, R5, ?_⟩
          cases e4 : f ρ1 l with
          | bad => rw [e4] at q'; exact (show False from q').elim
          | ex z l => rw [e4] at q'; exact (show False from q').elim
          | ok z l4 =>
            rw [e4] at q'
            intro v H4 P4
            by_cases nb : z.1 = .bo
            · simp only [if_pos nb] at q'; exact (show False from q').elim
            simp only [if_neg nb] at q'
            by_cases hl : acc.length < sizeLine
            · simp only [if_pos hl] at q'
              have rv := P4.rd R5.toBas nb
              have hx4 : H4 D = some (.lst xs) := P4.kept D _ hx3 nS
              have ra4 := ra3.mono (P4.kept.mn R5.toBas)
              have R6 := (R3.after k3 l3).after P4.kept P4.lsr
              have sm : Same (mn bx.O (D :: ow) H4) (mn bx.O (D :: ow) (L2.upd H4 D (.lst (xs ++ [v])))) := mn_congr List.mem_cons_self
              refine ⟨xs, hx4, by rw [ra4.length]; exact hl, l4, acc ++ [z.2], xs ++ [v], ?_, upd_same, (ra4.append (.cons rv .nil)).mono sm, ?_, q'⟩
              · exact R6.chg List.mem_cons_self (fun j e g1 g2 => by
                  obtain ⟨u, m1, g3, _⟩ := (R1.wipe vs).own j e g1
                  rw [g2] at g3
                  cases g3
                  exact (R1.fr _ m1).2.2 hD) _
              · intro a o g1 g2
                have ea : a ≠ D := fun z => by rw [z, hD] at g1; cases g1
                rw [upd_ne ea]
                exact ((kk'.trans k3).trans P4.kept) a o g1 g2
            · simp only [if_neg hl] at q'; exact (show False from q').elim
  · have e1 : ds.drop ds.length = [] := List.drop_length
    rw [e1] at q'
    have q' : ∀ v H', EPost bx ow H1 v H' .fr (.lst acc) ls → Q v H' := q'
    exact q' _ H ⟨kk, R'.lsr, D, rfl, hD, xs, hx, ra⟩
/-- [elt for tg in itr if ..] -/
theorem be_lc {ifs : List Expr} {scope : Scope} {own : List (Str × Nat)} (hc : X.calm = true) (hN : X.N.Nodup) (hi : PI X tg itr (tI bx W fi)) (ok : BlkOk X.N X.env.scope scope own)
    (hg : ∀ (s : Shared) (H : Hp) (C : Addr) (cl : List (Str × Addr)) (fp : List Addr), PG (X.blk s H scope (compEnvC scope cl C X.env) fp) tg tgr) (ht : ∀ (s : Shared) (H : Hp) (C : Addr) (cl : List (Str × Addr)) (fp : List Addr), PTs (X.blk s H scope (compEnvC scope cl C X.env) fp) ifs (tT bx WF tc))
    (he : ∀ (s : Shared) (H : Hp) (C : Addr) (cl : List (Str × Addr)) (fp : List Addr), PE (X.blk s H scope (compEnvC scope cl C X.env) fp) elt (tB bx WF f)) (tgs : TgS bx tgr bt is) (hsub : ∀ i ∈ is, i ∈ own.map (·.2)) (hs : ∀ x, foldedSetIterable itr X.env x = pure x := by intro _; rfl) :
    PE X (.ListComp elt [⟨tg, itr, ifs, 0⟩] scope pos) (tB bx W (eLc fi bt tc f (own.map (·.2)))) :=
  PE.imp (pe_lc hc hN hi ok hg ht he hs) fun _ _ _ h => lc_imp tgs hsub h
/-- name = [elt for ..] -/
theorem bs_setLc {ifs : List Expr} {scope : Scope} {own : List (Str × Nat)} {i : Nat} {y : Str} {py spos : Pos} (hc : X.calm = true) (hN : X.N.Nodup) (hy : X.N[i]? = some y) (hyl : X.env.scope.names.lookup y = some .local)
    (hsw : swapsWith (.ListComp elt [⟨tg, itr, ifs, 0⟩] scope pos) (some (.Name y py)) spos.line X.env = pure true) (hi : PI X tg itr (tI bx W fi)) (ok : BlkOk X.N X.env.scope scope own)
    (hg : ∀ (s : Shared) (H : Hp) (C : Addr) (cl : List (Str × Addr)) (fp : List Addr), PG (X.blk s H scope (compEnvC scope cl C X.env) fp) tg tgr) (ht : ∀ (s : Shared) (H : Hp) (C : Addr) (cl : List (Str × Addr)) (fp : List Addr), PTs (X.blk s H scope (compEnvC scope cl C X.env) fp) ifs (tT bx WF tc))
    (he : ∀ (s : Shared) (H : Hp) (C : Addr) (cl : List (Str × Addr)) (fp : List Addr), PE (X.blk s H scope (compEnvC scope cl C X.env) fp) elt (tB bx WF f)) (tgs : TgS bx tgr bt is) (hsub : ∀ i ∈ is, i ∈ own.map (·.2)) (hs : ∀ x, foldedSetIterable itr X.env x = pure x := by intro _; rfl) :
    PS X (.Assign [.Name y py] (.ListComp elt [⟨tg, itr, ifs, 0⟩] scope pos) spos) (sB bx W (sSet i (eLc fi bt tc f (own.map (·.2))))) :=
  bs_set (ps_setLc hc hN hy hyl hsw hi ok hg ht he hs) fun _ _ _ h => lc_imp tgs hsub h
theorem bts_nil : PTs X [] (tT bx WF bYes) := ⟨fun pins s σ H Q I h => pts_nil.run pins s σ H Q I (by
  obtain ⟨ow, tmp, ρ, ls, R, h⟩ := h
  exact h H Kept.refl R.lsr)⟩
theorem bts_one (h : PT X c (tT bx W tc)) : PTs X [c] (tT bx W tc) := pts_one h
end
end BL
end

section
set_option Elab.async false
set_option linter.all false
set_option maxRecDepth 100000
set_option maxHeartbeats 4000000
namespace BL
open PySem PySem.Spec PyProof.Rows L2

/-! ### defs, where the guards are known -/
structure RoomG (k : Nat) (A : Around) : Prop extends Room k A where
  gs : A.guards = some []
theorem RoomG.deeper {k : Nat} {A : Around} (r : RoomG (k + 1) A) (env : Env) : RoomG k (A.deeper env) := ⟨r.toRoom.deeper env, r.gs⟩
theorem RoomG.mono {j k : Nat} {A : Around} (r : RoomG k A) (hj : j ≤ k) : RoomG j A := ⟨r.toRoom.mono hj, r.gs⟩
structure FnG (P : Program) (w : World) (K : PySem.W.Frag) (mg : Str → Option Value) (base : Heap) (CX : CXT) (k : Nat) (f : Addr) (fd : FuncData) (ps : List Str) (sp : Sp) : Prop where
  len : ∀ vs H Q E, sp vs H Q E → vs.length = ps.length
  go : ∀ (A : Around) (fr0 : List Env) (s : Shared) (H : Hp) (args : Args) (us : List Value) (vs : List V) (Q : VK) (E : XK), RoomG k A → Env0 P w K mg base A fr0 s H → BindsTo s fd args (ps.zip us) → Vals vs us → sp vs H Q E →
    codeAny (model P w) A (.call (.ref f) args) (CR CX fr0 P w H s Q E) s
theorem FnG.mono {P : Program} {w : World} {K : PySem.W.Frag} {mg : Str → Option Value} {base : Heap} {CX : CXT} {j k : Nat} {f : Addr} {fd : FuncData} {ps : List Str} {sp : Sp} (F : FnG P w K mg base CX j f fd ps sp) (hj : j ≤ k) : FnG P w K mg base CX k f fd ps sp :=
  ⟨F.len, fun A fr0 s H args us vs Q E r0 => F.go A fr0 s H args us vs Q E (r0.mono hj)⟩

/-- a def of the text, by its body -/
theorem fnG_of {CX : CXT} {P : Program} {w : World} {K : PySem.W.Frag} {mg : Str → Option Value} {base : Heap} {k : Nat} {x qual : Str} {sd : Stmt} {f : Addr} {fd : FuncData} {N ps : List Str} {sp : Sp} (F : Fun K x qual sd f fd) (S : FnScope N ps (defScope sd))
    (len : ∀ vs H Q E, sp vs H Q E → vs.length = ps.length)
    (body : ∀ (cdv : Value) (A : Around) (fr0 : List Env) (s : Shared) (H : Hp) (vs : List V) (Q : VK) (E : XK), RoomG k (A.deeper (envOfC qual (defScope sd) s.heap.objs.size f cdv)) → sp vs H Q E →
      ∃ t, PSs (cxOf CX P w K mg base N qual (defScope sd) f cdv A fr0 s H E) (defBody sd) t ∧ t { nx := fun _ H' => Q .non H', rt := Q } (L2.start N vs) H) : FnG P w K mg base CX (k + 1) f fd ps sp := by
  obtain ⟨oc, od, kV, doc, pm, an, cdv, ct, osl, rfl, lk, hcd⟩ := F.ex
  refine ⟨len, fun A fr0 s H args us vs Q E r0 e0 hb rv hsp => ?_⟩
  have hl := len _ _ _ _ hsp
  have K1 : K.In s.heap := e0.mod.kin.keeps fun b o e => (e0.bs b o e).1
  have lim : s.heap.NoLimit := e0.mod.nolimit.keeps fun b o e => (e0.bs b o e).1
  have kinds : ∀ y ∈ ps.zip us, (defScope sd).names.lookup y.1 = some .local ∨ ((defScope sd).names.lookup y.1 = some .cell ∧ ((cellsFrom (s.heap.objs.size + 1) (defScope sd).names []).lookup y.1).isSome = true) := fun ⟨n, v⟩ hy => (S.par n (List.of_mem_zip hy).1).imp id fun q => ⟨q, PySem.W.cellsFrom_some _ _ _ (.inl q)⟩
  refine codeAny_call_function r0.toRoom.depth (K1 _ _ lk) rfl S.co S.gen rfl (PySem.W.codeRec_of K1 hcd) (hb _ _ _ _ ?_)
  refine wpAny_newFunctionEnv_cells S.kind kinds fun env e1 s1 x1 => ?_
  subst e1
  refine ⟨lim.keeps x1.toInCall.keep, codeAny_func ?_⟩
  obtain ⟨t, ht, hq⟩ := body cdv A fr0 s H vs Q E (r0.deeper _) hsp
  have I : Inv (cxOf CX P w K mg base N qual (defScope sd) f cdv A fr0 s H E) [] (L2.start N vs) H s1 := inv_start S r0.toRoom.hd e0 hl rv x1
  refine wpAny_mono (ht.run [] s1 (L2.start N vs) H _ I hq) (fun fl s2 z => ?_) fun e s2 z => z
  cases fl with
  | ret u =>
    obtain ⟨v, σ2, H2, J, r2, q2⟩ := z
    exact ⟨v, H2, J.os, J.bare, J.base, J.hok, r2, q2⟩
  | next =>
    obtain ⟨σ2, H2, J, q2⟩ := z
    exact ⟨V.non, H2, J.os, J.bare, J.base, J.hok, rfl, q2⟩
  | brk =>
    obtain ⟨_, _, _, q2⟩ := z
    exact q2.elim
  | cont =>
    obtain ⟨_, _, _, q2⟩ := z
    exact q2.elim

section
variable {X : Cx} {CX : CXT} {k : Nat} {f : Addr} {fd : FuncData} {ps ks : List Str} {sp : Sp} {E : Sg → XK} {x : Str} {p pos : Pos} {e : Expr} {es : List Expr} {kws : List Keyword} {t tk : TA}
theorem go_call {pins : List (Addr × Obj)} {σ : Sg} {H : Hp} {s : Shared} {Q : VK} {us : List Value} {args : Args} {vs : List V} (F : FnG X.prog X.w X.K X.mg X.base CX k f fd ps sp) (r0 : RoomG k X.A) (hb : BindsTo s fd ⟨args.pos, args.kw⟩ (ps.zip us)) (hx : PassesAt CX X σ (E σ))
    (I : Inv X pins σ H s) (r : Vals vs us) (h0 : sp vs H Q (E σ)) : wpAny (model X.prog X.w) X.A (call (.ref f) args.pos args.kw) (EP X pins σ Q) X.xe s := by
  refine wpAny_call (codeAny_mono (F.go X.A X.stack s H ⟨args.pos, args.kw⟩ us vs Q (E σ) r0 I.env0 hb r h0) fun rs s2 z => ?_)
  cases rs with
  | error e => exact hx pins H s e s2 I z
  | ok fl =>
    cases fl with
    | ret u => exact I.after z
    | next => exact z.elim
    | brk => exact z.elim
    | cont => exact z.elim
def tCallG (sp : Sp) (E : Sg → XK) (t : TA) : TE := fun σ H Q => t σ H fun vs H1 => sp vs H1 Q (E σ)
theorem pe_callG (F : FnG X.prog X.w X.K X.mg X.base CX k f fd ps sp) (r0 : RoomG k X.A) (hg : Gl X x) (hm : X.mg x = some (.ref f)) (hk : PySem.W.keepIn X.K (.ref f) = true) (hb : Binds X.K fd ps []) (hx : ∀ σ, PassesAt CX X σ (E σ))
    (ha : PA X (e :: es) t) (hdb : (x == ("__debug__" : Str)) = false := by decide) (he : starEach (e :: es) X.env = (false, eval e X.env) :: starEach es X.env := by rfl) (hpl : (backTo pos (starEach es X.env)).any (·.1) = false := by rfl) :
    PE X (.Call (.Name x p) (e :: es) [] pos) (tCallG sp E t) := by
  refine ⟨fun pins s σ H Q I h0 => ?_⟩
  refine wpAny_Call_Name_kw (ld_glob I hg hm ?_ hdb)
  refine PySem.W.callWith_K (h₀ := X.base) I.ok.mod.kin hk (thn (ha.run pos pins s σ H _ I h0) fun us s1 ⟨vs, H1, I1, r, q⟩ => ⟨I1.kIn, ?_⟩) he hpl
  have hl : us.length = ps.length := by rw [← r.length]; exact F.len _ _ _ _ q
  have b := hb s1 us I1.kIn (by rw [List.append_nil]; exact hl)
  rw [List.append_nil] at b
  exact go_call (args := ⟨us, []⟩) F r0 b (hx σ) I1 r q
theorem pe_callG0 (F : FnG X.prog X.w X.K X.mg X.base CX k f fd [] sp) (r0 : RoomG k X.A) (hg : Gl X x) (hm : X.mg x = some (.ref f)) (hk : PySem.W.keepIn X.K (.ref f) = true) (hb : Binds X.K fd [] []) (hx : ∀ σ, PassesAt CX X σ (E σ))
    (hdb : (x == ("__debug__" : Str)) = false := by decide) : PE X (.Call (.Name x p) [] [] pos) (tCallG sp E tNil) := by
  refine ⟨fun pins s σ H Q I h0 => ?_⟩
  refine wpAny_Call_Name_kw (ld_glob I hg hm ?_ hdb)
  exact PySem.W.callWith_K0 I.kIn hk (go_call (args := ⟨[], []⟩) (us := []) F r0 (hb s [] I.kIn rfl) (hx σ) I .nil h0)
/-- .. with keywords -/
def tCallGK (sp : Sp) (gV : List V → List V → List V) (E : Sg → XK) (t tk : TA) : TE := fun σ H Q => t σ H fun vs H1 => tk σ H1 fun zs H2 => sp (gV vs zs) H2 Q (E σ)
theorem pe_callGK {g : List Value → List Value → List Value} {gV : List V → List V → List V} (F : FnG X.prog X.w X.K X.mg X.base CX k f fd ps sp) (r0 : RoomG k X.A) (hg : Gl X x) (hm : X.mg x = some (.ref f)) (hk : PySem.W.keepIn X.K (.ref f) = true) (hb : KBinds X.K fd ps ks g gV) (hx : ∀ σ, PassesAt CX X σ (E σ))
    (ha : PA X (e :: es) t) (hkw : PK X kws tk) (hall : (backToKw pos (keywordEach kws X.env)).all (·.1.isSome) = true := by rfl) (hks : (backToKw pos (keywordEach kws X.env)).filterMap (·.1) = ks := by rfl)
    (hdb : (x == ("__debug__" : Str)) = false := by decide) (he : starEach (e :: es) X.env = (false, eval e X.env) :: starEach es X.env := by rfl)
    (hpl : ((backTo pos (starEach (e :: es) X.env)).any (·.1) || (backToKw pos (keywordEach kws X.env)).any (·.1.isNone)) = false := by rfl) :
    PE X (.Call (.Name x p) (e :: es) kws pos) (tCallGK sp gV E t tk) := by
  refine ⟨fun pins s σ H Q I h0 => ?_⟩
  refine wpAny_Call_Name_kw (ld_glob I hg hm ?_ hdb)
  refine PySem.W.callWith_KW (h₀ := X.base) I.ok.mod.kin hk hall (thn (ha.run pos pins s σ H _ I h0) fun us s1 ⟨vs, H1, I1, r, q⟩ => ?_) hpl he
  refine thn (hkw.run pos pins s1 σ H1 _ I1 q) fun ws s2 ⟨zs, H2, I2, rz, q2⟩ => ⟨I2.kIn, ?_⟩
  rw [hks]
  have r2 := hb.rel r rz
  have hl : (g us ws).length = ps.length := by rw [← r2.length]; exact F.len _ _ _ _ q2
  exact go_call (args := ⟨us, ks.zip ws⟩) F r0 (hb.to s2 us ws I2.kIn hl) (hx σ) I2 r2 q2
end

/-! ### what a def of ours promises: its mirror -/
def RunC (bx : Bx) (r : Res (Fg × D)) (Q : VK) (E : XK) : Prop := match r with
  | .bad => False
  | .ok z ls' => ∀ v H', RPost bx v H' z.1 z.2 ls' → Q v H'
  | .ex e ls' => ∀ cls dd H', Kept bx bx.H0 H' → LSR bx H' ls' → ExR bx (mn bx.O [] H') e cls dd → E cls dd H'
structure Ent (bx : Bx) (ls : LS) : Prop where
  sO : ∀ a, bx.S a = true → bx.O a = true
  oD : ∀ a, bx.O a = true → bx.H0 a ≠ none
  cO : ∀ ca la, bx.stt = some (ca, la) → bx.O ca = true
  lsr : LSR bx bx.H0 ls
abbrev Mir := List D → M (Fg × D)
def SpB (K : PySem.W.Frag) (exC : String → Option Addr) (n : Nat) (mir : Mir) : Sp := fun vs H Q E => vs.length = n ∧ ∃ sa O stt ds ls, Ent ⟨K, sa, O, H, stt, exC⟩ ls ∧ RDs K sa (mn O [] H) vs ds ∧ RunC ⟨K, sa, O, H, stt, exC⟩ (mir ds ls) Q E
/-- the body's end as the def's -/
def fin (r : Res Oc) : Res (Fg × D) := match r with
  | .ok (.nx _) ls => .ok (.sh, .non) ls
  | .ok (.rt z) ls => .ok z ls
  | .ok (.rz _ e) ls => .ex e ls
  | _ => .bad
def startB (n : Nat) (ds : List D) : Env1 := ds.map (fun d => some (false, d)) ++ List.replicate (n - ds.length) none
def mirOf (n : Nat) (m : SM) : Mir := fun ds ls => fin (m (startB n ds) ls)
theorem rel_start {bx : Bx} {ls : LS} {n : Nat} {N : List Str} {vs : List V} {ds : List D} (en : Ent bx ls) (hn : N.length = n) (r : RDs bx.K bx.sa (mn bx.O [] bx.H0) vs ds) : Rel bx [] [] (startB n ds) (L2.start N vs) bx.H0 ls where
  fr := fun p m => absurd m (by simp)
  kept := Kept.refl
  sO := en.sO
  oD := en.oD
  cO := en.cO
  lsr := en.lsr
  len := by
    unfold startB L2.start
    rw [List.length_append, List.length_append, List.length_map, List.length_map, List.length_replicate, List.length_replicate, r.length, hn]
  sh := fun i d h => by
    unfold startB at h
    rcases Nat.lt_or_ge i ds.length with hi | hi
    · rw [List.getElem?_append_left (by simpa using hi), List.getElem?_map] at h
      obtain ⟨e, h1, h2⟩ := Option.map_eq_some_iff.mp h
      cases h2
      obtain ⟨v, h3, h4⟩ := r.get h1
      refine ⟨v, ?_, h4⟩
      unfold L2.start
      rw [List.getElem?_append_left (by rw [List.length_map, r.length]; exact hi), List.getElem?_map, h3]
      rfl
    · rw [List.getElem?_append_right (by simpa using hi), List.getElem?_replicate] at h
      split at h <;> cases h
  own := fun i d h => by
    unfold startB at h
    rcases Nat.lt_or_ge i ds.length with hi | hi
    · rw [List.getElem?_append_left (by simpa using hi), List.getElem?_map] at h
      obtain ⟨e, h1, h2⟩ := Option.map_eq_some_iff.mp h
      cases h2
    · rw [List.getElem?_append_right (by simpa using hi), List.getElem?_replicate] at h
      split at h <;> cases h
  inj := fun i j d e p h => by
    unfold startB at h
    rcases Nat.lt_or_ge i ds.length with hi | hi
    · rw [List.getElem?_append_left (by simpa using hi), List.getElem?_map] at h
      obtain ⟨e, h1, h2⟩ := Option.map_eq_some_iff.mp h
      cases h2
    · rw [List.getElem?_append_right (by simpa using hi), List.getElem?_replicate] at h
      split at h <;> cases h
  tm := fun h m => absurd m (by simp)
/-- from the body -/
theorem fnB {P : Program} {w : World} {K : PySem.W.Frag} {mg : Str → Option Value} {base : Heap} {k n : Nat} {x qual : Str} {sd : Stmt} {f : Addr} {fd : FuncData} {N ps : List Str} {exC : String → Option Addr} {m : SM} (F : Fun K x qual sd f fd) (S : FnScope N ps (defScope sd)) (hn : N.length = n) (np : Nat) (hp : np = ps.length)
    (body : ∀ (cdv : Value) (A : Around) (fr0 : List Env) (s : Shared) (H : Hp) (E : XK) (bx : Bx), RoomG k (A.deeper (envOfC qual (defScope sd) s.heap.objs.size f cdv)) → bx.K = K → bx.exC = exC →
      PSs (cxOf (L2.CX P w) P w K mg base N qual (defScope sd) f cdv A fr0 s H E) (defBody sd) (sB bx (fun cls d _ H' => E cls d H') m)) : FnG P w K mg base (L2.CX P w) (k + 1) f fd ps (SpB K exC np (mirOf n m)) := by
  refine fnG_of F S (fun vs H Q E h => h.1.trans hp) fun cdv A fr0 s H vs Q E r0 hsp => ?_
  obtain ⟨hl, sa, O, stt, ds, ls, en, rd, hr⟩ := hsp
  refine ⟨_, body cdv A fr0 s H E ⟨K, sa, O, H, stt, exC⟩ r0 rfl rfl, [], [], startB n ds, ls, rel_start en hn rd, ?_⟩
  have hr : RunC ⟨K, sa, O, H, stt, exC⟩ (fin (m (startB n ds) ls)) Q E := hr
  cases e : m (startB n ds) ls with
  | bad => rw [e] at hr; exact hr
  | ex x l => rw [e] at hr; exact hr
  | ok o l =>
    rw [e] at hr
    cases o with
    | nx ρ => exact fun ow' σ' H' R' => hr .non H' ⟨R'.kept, R'.lsr, .non⟩
    | rt z => exact hr
    | bk ρ => exact (show False from hr).elim
    | ct ρ => exact (show False from hr).elim
    | rz ρ x => exact fun ow' σ' H' cls dd R' xr => hr cls dd H' R'.kept R'.lsr (xr.mono mn_nil)

/-! ### calls of our own -/
def flatD : D → Bool
  | .non => true
  | .bl _ => true
  | .int _ => true
  | .str _ => true
  | _ => false
theorem RD.flat {K : PySem.W.Frag} {sa : Addr} {H H' : Hp} {v : V} {d : D} (r : RD K sa H v d) (h : flatD d = true) : RD K sa H' v d := by
  cases r <;> first | exact .non | exact .bl _ | exact .int _ | exact .str _ | (simp [flatD] at h; done)
def qNil : Env1 → M (Bool × List D) := fun _ => M.pure (false, [])
def qCons (f : Env1 → M (Fg × D)) (t : Env1 → M (Bool × List D)) : Env1 → M (Bool × List D) := fun ρ => M.bind (f ρ) fun x => M.bind (t ρ) fun xs => M.pure (decide (x.1 = .bo) || xs.1, x.2 :: xs.2)
def RunQ (bx : Bx) (W : WX) (ow : List Addr) (σ : Sg) (H : Hp) (r : Res (Bool × List D)) (Q : List V → Hp → Prop) : Prop := match r with
  | .bad => False
  | .ok ds ls' => ∀ vs H', Kept bx H H' → LSR bx H' ls' → RBs bx ow H' vs ds.2 → (ds.1 = false → RDs bx.K bx.sa (mn bx.O ow H') vs ds.2) → Q vs H'
  | .ex e ls' => ∀ cls dd H', XPost bx ow H e cls dd H' ls' → W cls dd σ H'
def tQ (bx : Bx) (W : WX) (f : Env1 → M (Bool × List D)) : TA := fun σ H Q => ∃ ow tmp ρ ls, Rel bx ow tmp ρ σ H ls ∧ RunQ bx W ow σ H (f ρ ls) Q
section
variable {X : Cx} {bx : Bx} {W : WX} {a b c e : Expr} {f g : Env1 → M (Fg × D)} {t : Env1 → M (Bool × List D)} {pos : Pos} {es : List Expr}
theorem RunQ.shift {ow : List Addr} {σ : Sg} {H H1 : Hp} {r : Res (Bool × List D)} {Q : List V → Hp → Prop} (h : RunQ bx W ow σ H r Q) (k : Kept bx H H1) : RunQ bx W ow σ H1 r Q := by
  cases r with
  | bad => exact h
  | ok z ls' => exact fun v H' P => h v H' (k.trans P)
  | ex e ls' => exact fun c d H' P => h c d H' (P.from k)
theorem bq_nil : PA X [] (tQ bx W qNil) := PA.imp pa_nil fun σ H Q h => by
  obtain ⟨ow, tmp, ρ, ls, R, h⟩ := h
  exact h [] H Kept.refl R.lsr .nil fun _ => .nil
theorem bq_cons (ha : PE X a (tB bx W f)) (hr : PA X es (tQ bx W t)) (hs : starEach (a :: es) X.env = (false, eval a X.env) :: starEach es X.env := by rfl) : PA X (a :: es) (tQ bx W (qCons f t)) :=
  PA.imp (pa_cons ha hr hs) fun σ H Q h => by
    obtain ⟨ow, tmp, ρ, ls, R, h⟩ := h
    refine ⟨ow, tmp, ρ, ls, R, ?_⟩
    have h : RunQ bx W ow σ H (M.bind (f ρ) (fun x => M.bind (t ρ) fun xs => M.pure (decide (x.1 = .bo) || xs.1, x.2 :: xs.2)) ls) Q := h
    unfold M.bind at h
    cases e1 : f ρ ls with
    | bad => rw [e1] at h; exact h
    | ex x l => rw [e1] at h; exact h
    | ok z l =>
      rw [e1] at h
      intro v H1 P
      have R1 := R.after P.kept P.lsr
      refine ⟨ow, tmp, ρ, l, R1, ?_⟩
      have h1 := RunQ.shift h P.kept
      simp only at h1
      cases e2 : t ρ l with
      | bad => rw [e2] at h1; exact h1
      | ex x l2 => rw [e2] at h1; exact h1
      | ok ys l2 =>
        rw [e2] at h1
        intro vs H2 k2 l2' rb rd
        have hb := (P.rb R.toBas).after R1.toBas k2
        refine h1 (v :: vs) H2 k2 l2' (.cons hb rb) fun hz => ?_
        have hz : (decide (z.1 = .bo) || ys.1) = false := hz
        have h2 := Bool.or_eq_false_iff.mp hz
        exact .cons ((P.rd R.toBas (of_decide_eq_false h2.1)).mono (k2.mn R1.toBas)) (rd h2.2)
theorem RunE.qargs {ow : List Addr} {tmp : List Hp} {ρ : Env1} {σ : Sg} {H : Hp} {ls : LS} {m : M (Bool × List D)} {k : Bool × List D → M (Fg × D)} {Q : VK} {Q' : List V → Hp → Prop} (h : RunE bx W ow σ H (M.bind m k ls) Q) (R : Rel bx ow tmp ρ σ H ls)
    (hk : ∀ vs H1 (ds : Bool × List D) ls1, RBs bx ow H1 vs ds.2 → (ds.1 = false → RDs bx.K bx.sa (mn bx.O ow H1) vs ds.2) → Rel bx ow tmp ρ σ H1 ls1 → RunE bx W ow σ H1 (k ds ls1) Q → Q' vs H1) : RunQ bx W ow σ H (m ls) Q' := by
  unfold M.bind at h
  cases e : m ls with
  | bad => rw [e] at h; exact h
  | ok z ls1 =>
    rw [e] at h
    exact fun v H1 P l r rd => hk v H1 z ls1 r rd (R.after P l) (h.shift R.toBas P l)
  | ex x ls1 => rw [e] at h; exact h
def eCall (n : Nat) (mir : Mir) (t : Env1 → M (Bool × List D)) : Env1 → M (Fg × D) := fun ρ => M.bind (t ρ) fun ds => if ds.2.length = n then M.bind (if ds.1 = true then noex (mir ds.2) else mir ds.2) fun z => if ds.1 = false ∨ (z.1 = .sh ∧ flatD z.2 = true) then M.pure z else M.bad else M.bad
theorem RB.look {bx : Bx} {ow : List Addr} {H : Hp} {v : V} {d : D} {O2 : Addr → Bool} (rb : RB bx ow H v d) (sm : Same (mn bx.O ow H) (mn O2 [] H)) (hp : ∀ p, v = .ref p → p ∈ ow → O2 p = false) : RD bx.K bx.sa (mn O2 [] H) v d := by
  cases rb with
  | sh r => exact r.mono sm
  | @own p _ m t =>
    have hO := hp p rfl m
    cases d with
    | lst us => obtain ⟨ws, g1, g2⟩ := t; exact .lst (mn_of g1 hO (by simp)) (g2.mono sm)
    | dk us => obtain ⟨ws, g1, g2⟩ := t; exact .dk (mn_of g1 hO (by simp)) (g2.mono sm)
    | _ => exact t.elim
/-- a call by the caller's eyes: O2 is what is hidden from the callee -/
theorem call_go {ow : List Addr} {tmp : List Hp} {ρ : Env1} {σ : Sg} {H : Hp} {ls : LS} {mir : Mir} {ds : List D} {vs : List V} {Q : VK} {O2 : Addr → Bool} (R : Rel bx ow tmp ρ σ H ls) (h1 : ∀ a, bx.O a = true → O2 a = true) (h2 : ∀ a, O2 a = true → bx.O a = true ∨ a ∈ ow)
    (rd : RDs bx.K bx.sa (mn O2 [] H) vs ds) (h : RunE bx W ow σ H (mir ds ls) Q)
    (back : (∀ a, a ∈ ow → O2 a = true) ∨ ∀ z ls', mir ds ls = .ok z ls' → z.1 = .sh ∧ flatD z.2 = true) (backX : (∀ a, a ∈ ow → O2 a = true) ∨ ∀ x ls', mir ds ls ≠ .ex x ls') :
    Ent ⟨bx.K, bx.sa, O2, H, bx.stt, bx.exC⟩ ls ∧ RDs bx.K bx.sa (mn O2 [] H) vs ds ∧ RunC ⟨bx.K, bx.sa, O2, H, bx.stt, bx.exC⟩ (mir ds ls) Q (WE W σ) := by
  have en : Ent ⟨bx.K, bx.sa, O2, H, bx.stt, bx.exC⟩ ls := ⟨fun a s => h1 a (R.sO a s), fun a o => by
    rcases h2 a o with o | o
    · intro z
      have z : H a = none := z
      have hS : bx.S a = false := by
        cases e : bx.S a with
        | false => rfl
        | true => exact absurd z (R.lsr.dom e)
      cases e : bx.H0 a with
      | none => exact R.oD a o e
      | some u => rw [R.kept a u e hS] at z; cases z
    · exact (R.fr a o).2.2, fun ca la e => h1 ca (R.cO ca la e), R.lsr⟩
  refine ⟨en, rd, ?_⟩
  have sub : (∀ a, a ∈ ow → O2 a = true) → ∀ (p : List Addr) (H' : Hp), Same (mn O2 p H') (mn bx.O (p ++ ow) H') := fun hb p H' a o e => by
    obtain ⟨g1, g2, g3⟩ := mn_some e
    refine mn_of g1 ?_ fun m => ?_
    · cases eO : bx.O a with
      | false => rfl
      | true => rw [h1 a eO] at g2; cases g2
    · rcases List.mem_append.mp m with m | m
      · exact g3 m
      · rw [hb a m] at g2; cases g2
  cases er : mir ds ls with
  | bad => rw [er] at h; exact h
  | ex x l =>
    rw [er] at h
    intro cls dd H' k l' xr
    have hb := backX.resolve_right fun z => z x l er
    exact h cls dd H' ⟨k, l', ExR.mono (bx := bx) xr (by simpa using sub hb [] H')⟩
  | ok z l =>
    rw [er] at h
    intro v H' P
    obtain ⟨k, l', hv⟩ := P
    refine h v H' ⟨k, l', ?_⟩
    obtain ⟨z1, z2⟩ := z
    cases z1 with
    | bo => exact hv.elim
    | sh =>
      rcases back with hb | hb
      · exact RD.mono (by simpa using sub hb [] H') hv
      · exact RD.flat hv (hb _ _ er).2
    | fr =>
      rcases back with hb | hb
      · obtain ⟨p, g1, g2, g3, g4⟩ := hv
        refine ⟨p, g1, g2, ?_⟩
        have sm := sub hb [p] H'
        have g4 : Top ⟨bx.K, bx.sa, O2, H, bx.stt, bx.exC⟩ [p] H' p z2 := g4
        cases z2 with
        | lst ds => obtain ⟨us, q1, q2⟩ := g4; exact ⟨us, q1, q2.mono sm⟩
        | dk ds => obtain ⟨us, q1, q2⟩ := g4; exact ⟨us, q1, q2.mono sm⟩
        | _ => exact g4.elim
      · exact absurd (show Fg.fr = Fg.sh from (hb _ _ er).1) (by decide)
theorem be_call {n : Nat} {mir : Mir} {k : Nat} {fa : Addr} {fd : FuncData} {ps : List Str} (hcall : PE X e (tCallG (SpB X.K bx.exC n mir) (WE W) (tQ bx W t))) (hK : bx.K = X.K) : PE X e (tB bx W (eCall n mir t)) := PE.imp hcall fun σ H Q h => by
  obtain ⟨ow, tmp, ρ, ls, R, h⟩ := h
  refine ⟨ow, tmp, ρ, ls, R, RunE.qargs h R fun vs H1 ds ls1 rb rd R1 q => ?_⟩
  by_cases hl : ds.2.length = n
  · rw [if_pos hl] at q
    have hlv : ∀ {xs : List V} {zs : List D}, RBs bx ow H1 xs zs → xs.length = zs.length := fun r => by
      induction r with
      | nil => rfl
      | cons _ _ ih => rw [List.length_cons, List.length_cons, ih]
    refine ⟨(hlv rb).trans hl, bx.sa, ?_⟩
    rw [← hK]
    cases hb : ds.1 with
    | false =>
      rw [hb, if_neg (by decide)] at q
      have run : RunE bx W ow σ H1 (mir ds.2 ls1) Q := by
        unfold M.bind at q
        cases er : mir ds.2 ls1 with
        | bad => rw [er] at q; exact q
        | ex x l => rw [er] at q; exact q
        | ok z l =>
          rw [er] at q
          have q : RunE bx W ow σ H1 ((if (false : Bool) = false ∨ (z.1 = .sh ∧ flatD z.2 = true) then M.pure z else M.bad : M (Fg × D)) l) Q := q
          rw [if_pos (.inl rfl)] at q
          exact q
      refine ⟨fun a => bx.O a || decide (a ∈ ow), bx.stt, ds.2, ls1, call_go R1 (fun a h => by simp [h]) (fun a h => by simpa using h) ((rd hb).mono ?_) run (.inl fun a m => by simp [m]) (.inl fun a m => by simp [m])⟩
      intro a o e1
      obtain ⟨g1, g2, g3⟩ := mn_some e1
      exact mn_of g1 (by simp [g2, g3]) (by simp)
    | true =>
      rw [hb, if_pos rfl, noex_bind] at q
      have run : RunE bx W ow σ H1 (mir ds.2 ls1) Q ∧ (∀ z l, mir ds.2 ls1 = .ok z l → z.1 = .sh ∧ flatD z.2 = true) ∧ ∀ x l, mir ds.2 ls1 ≠ .ex x l := by
        cases er : mir ds.2 ls1 with
        | bad => rw [er] at q; exact (show False from q).elim
        | ex x l => rw [er] at q; exact (show False from q).elim
        | ok z l =>
          rw [er] at q
          have q : RunE bx W ow σ H1 ((if (true : Bool) = false ∨ (z.1 = .sh ∧ flatD z.2 = true) then M.pure z else M.bad : M (Fg × D)) l) Q := q
          by_cases hf : z.1 = .sh ∧ flatD z.2 = true
          · rw [if_pos (.inr hf)] at q
            exact ⟨q, fun z' l' e => by cases e; exact hf, fun x l e => by cases e⟩
          · rw [if_neg (by simpa using hf)] at q; exact (show False from q).elim
      have look : ∀ {xs : List V} {zs : List D}, RBs bx ow H1 xs zs → (∀ x ∈ xs, x ∈ vs) → RDs bx.K bx.sa (mn (fun a => bx.O a || decide (a ∈ ow ∧ V.ref a ∉ vs)) [] H1) xs zs := fun r => by
        have sm : Same (mn bx.O ow H1) (mn (fun a => bx.O a || decide (a ∈ ow ∧ V.ref a ∉ vs)) [] H1) := fun a o e1 => by
          obtain ⟨g1, g2, g3⟩ := mn_some e1
          exact mn_of g1 (by simp [g2, g3]) (by simp)
        induction r with
        | nil => exact fun _ => .nil
        | cons rb _ ih =>
          intro hx
          refine .cons ?_ (ih fun x m => hx x (List.mem_cons_of_mem _ m))
          exact rb.look sm fun p ev m => by
            subst ev
            have hv := hx _ List.mem_cons_self
            simp [(R1.fr p m).2.1, hv]
      exact ⟨_, bx.stt, ds.2, ls1, call_go R1 (fun a h => by simp [h]) (fun a h => by
        have h : (bx.O a || decide (a ∈ ow ∧ V.ref a ∉ vs)) = true := h
        rcases Bool.or_eq_true_iff.mp h with h | h
        · exact .inl h
        · exact .inr (of_decide_eq_true h).1) (look rb fun _ m => m) run.1 (.inr run.2.1) (.inr run.2.2)⟩
  · rw [if_neg hl] at q; exact (show False from q).elim
end
end BL
end

section
set_option Elab.async false
set_option linter.all false
set_option maxRecDepth 100000
set_option maxHeartbeats 4000000
namespace BL
open PySem PySem.Spec PyProof.Rows L2

/-! ### the law's own head, where the guards are known -/
theorem top_callG {P : Program} {w : World} {K : PySem.W.Frag} {mg mb : Str → Option Value} {CX : CXT} {k : Nat} {fa a : Addr} {fd : FuncData} {x : Str} {sp : Sp} {z1 : Shared} {us : List Value} {ns : List Int}
    (K1 : K.In z1.heap) (g1 : z1.heap.Ns mainGlobals mg) (g2 : z1.heap.Ns builtinsNs mb) (g3 : ∀ x : Str, x ≠ "__name__" → mb x = bootBuiltins x) (lim : z1.heap.NoLimit) (noGen : z1.gens = #[])
    (ha : z1.heap.get? a = some { cls := .type "list", data := .seq us.toArray }) (hi : IntsAre us ns) (hl : ns.length ≤ sizeLine) (r0 : RoomG k callerA)
    (F : ∀ base : Heap, K.In base → base.Ns mainGlobals mg → FnG P w K mg base CX k fa fd [x] sp) (bnd : ∀ (s : Shared) (u : Value), BindsTo s fd ⟨[u], []⟩ [(x, u)])
    (hsp : ∀ H : Hp, Only H → SqL K H a (ns.map V.int) → sp [.ref a] H (fun v _ => v = .bl true) fun _ _ _ => False)
    (noX : ∀ H e s2, CX [] H z1 (fun _ _ _ => False) e s2 → False) :
    codeAny (model P w) callerA (.call (.ref fa) ⟨[.ref a], []⟩) (fun r s2 => r = .ok (.ret (.bool true)) ∧ OldK z1.heap s2.heap ∧ s2.os = z1.os ∧ AllBare s2.gens) z1 := by
  have rv := vals_ints hi
  have main : ∀ H : Hp, Only H → SqL K H a (ns.map V.int) → HOk P w H z1.heap → (∀ b, H b ≠ none → b = a) → (H a ≠ none → K.lookup a = none) →
      codeAny (model P w) callerA (.call (.ref fa) ⟨[.ref a], []⟩) (fun r s2 => r = .ok (.ret (.bool true)) ∧ OldK z1.heap s2.heap ∧ s2.os = z1.os ∧ AllBare s2.gens) z1 := by
    intro H only seq hok hA hK
    have low : ∀ {b : Addr} {o : Obj}, z1.heap.get? b = some o → H b = none → (hidT z1.heap H).get? b = some o := fun e n => hidT_get e n
    have noD : ∀ {b : Addr} {o : Obj} {es : Array DictEntry} {ep : Nat}, z1.heap.get? b = some o → o.data = .dict es ep → H b = none := fun {b o es ep} e d => by
      cases q : H b with
      | none => rfl
      | some u =>
        obtain rfl : b = a := hA b (by rw [q]; simp)
        rw [ha] at e; cases e
        exact nomatch (show Data.seq us.toArray _ = Data.dict es ep from d)
    have nsB : ∀ {b : Addr} {m : Str → Option Value}, z1.heap.Ns b m → (hidT z1.heap H).Ns b m := fun {b m} ⟨o, es, ep, e, d, r⟩ => ⟨o, es, ep, low e (noD e d), d, r⟩
    have K2 : K.In (hidT z1.heap H) := fun b o e => low (K1 b o e) (by
      cases q : H b with
      | none => rfl
      | some u =>
        obtain rfl : b = a := hA b (by rw [q]; simp)
        rw [hK (by rw [q]; simp)] at e; cases e)
    have M1 : Mod K mg (hidT z1.heap H) := ⟨K2, nsB g1, ⟨mb, nsB g2, g3⟩, let ⟨mc, h1, h2⟩ := lim; ⟨mc, nsB h1, h2⟩⟩
    have e0 : Env0 P w K mg (hidT z1.heap H) callerA [] z1 H := ⟨rfl, M1, fun b o e => of_hidT e, Nat.le_of_eq (hidT_size _ _), trivial, fun b hb => absurd (show b ∈ ([] : List Addr) from hb) (by simp), hok, .of_eq noGen⟩
    refine codeAny_mono ((F _ K2 (nsB g1)).go callerA [] z1 H ⟨[.ref a], []⟩ [.ref a] [.ref a] _ _ r0 e0 (bnd z1 (.ref a)) (.cons rfl .nil) (hsp H only seq)) fun r s2 z => ?_
    cases r with
    | error e => exact (noX H e s2 z).elim
    | ok fl =>
      cases fl with
      | next => exact z.elim
      | brk => exact z.elim
      | cont => exact z.elim
      | ret u =>
        obtain ⟨v, H2, os, bare, un, hok2, rel, qv⟩ := z
        obtain rfl : v = .bl true := qv
        obtain rfl : u = Value.bool true := rel
        refine ⟨rfl, OldK.of_keep fun b o e => ?_, os, bare⟩
        cases q : H b with
        | none => exact un.keep b o e q (fun z => absurd (show b ∈ ([] : List Addr) from z) (by simp)) (by simp)
        | some u =>
          rcases only b with z | ⟨ob, xs, z⟩
          · rw [q] at z; cases z
          · obtain ⟨e1, _⟩ := hok b _ z
            obtain ⟨e2, _⟩ := hok2 b _ (un.frzs b ob _ z)
            rw [e] at e1; cases e1
            exact e2
  cases hk : K.lookup a with
  | some o =>
    have e := K1 a o hk
    rw [ha] at e
    cases e
    exact main (fun _ => none) (fun _ => .inl rfl) (.inr ⟨_, us.toArray, _, hk, rfl, rfl, rfl, by rw [List.size_toArray, hi.length]; exact hl, by simpa using rv⟩) (fun b u z => nomatch (show (none : Option HO) = some u from z)) (fun b z => absurd rfl z) fun z => absurd rfl z
  | none =>
    refine main (fun b => if b = a then some (.frz { cls := .type "list", data := .seq us.toArray } (.lst (ns.map V.int))) else none) (fun b => ?_) (.inl (.inr ⟨{ cls := .type "list", data := .seq us.toArray }, if_pos rfl⟩)) (fun b u z => ?_) (fun b z => ?_) fun _ => hk
    · by_cases hb : b = a
      · exact .inr ⟨_, _, if_pos hb⟩
      · exact .inl (if_neg hb)
    · by_cases hb : b = a
      · cases (if_pos hb).symm.trans z
        subst hb
        exact ⟨ha, by rw [List.length_map]; exact hl, us, _, rv, ha⟩
      · cases (if_neg hb).symm.trans z
    · exact Classical.byContradiction fun hb => z (if_neg hb)
theorem walkG {l : PySem.W.OpenLaw} {n k : Nat} {q : Program} {loose : List Str} {XP : (Str → Option Value) → Heap → Prop} {YP : World → Heap → Prop} {d : DefRec} {K : Params → PySem.W.Frag} {CX : World → CXT} {sp : World → Sp} {x : Str}
    (hn : l.most = some n) (hn2 : n ≤ sizeLine) (hdf : d.params.defaults = []) (r0 : RoomG k callerA) (inY : ∀ (w : World) (h : Heap), YP w h → (K w.params).In h)
    (F : ∀ (w : World) (mg : Str → Option Value) (fa : Addr) (h : Heap), (K w.params).In h → h.Ns mainGlobals mg → mg d.name = some (.ref fa) →
      ∃ fd : FuncData, (∀ (s : Shared) (u : Value), BindsTo s fd ⟨[u], []⟩ [(x, u)]) ∧ ∀ base : Heap, (K w.params).In base → base.Ns mainGlobals mg → FnG l.prog w (K w.params) mg base (CX w) k fa fd [x] (sp w))
    (hsp : ∀ (w : World) (H : Hp) (a : Addr) (ns : List Int), ns.length ≤ n → Only H → SqL (K w.params) H a (ns.map V.int) → sp w [.ref a] H (fun v _ => v = .bl true) fun _ _ _ => False)
    (noX : ∀ (w : World) (H : Hp) (s : Shared) (e : Value) (s2 : Shared), CX w [] H s (fun _ _ _ => False) e s2 → False) :
    PySem.W.WalkO q loose XP YP l.row.toRowW d [] (fun f vs => PySem.call f vs) := by
  refine Att.attach_call hn hdf fun w z0 z1 mg mb fa o pm cd doc a vs ns G Y ho hd hcd hmg hobj hints hlen hg => ?_
  have K1 := inY w _ Y
  obtain ⟨fd, hb, hF⟩ := F w mg fa _ K1 G.T.g hmg
  exact top_callG K1 G.T.g G.T.b G.T.builtins G.T.nolimit hg hobj hints (Nat.le_trans hlen hn2) r0 hF hb (fun H hO hS => hsp w H a ns hlen hO hS) fun H e s2 => noX w H z1 e s2
theorem noX_L2 {P : Program} {w : World} {H : Hp} {s s2 : Shared} {e : Value} : L2.CX P w [] H s (fun _ _ _ => False) e s2 → False := fun ⟨_, _, _, _, _, _, _, _, _, _, _, _, z⟩ => z

end BL
namespace BL
open PySem PySem.Spec PyProof.Rows L2
/-- a def of the module, as the top has written it -/
structure DefF (K : PySem.W.Frag) (x : Str) (st : Stmt) : Prop where
  ex : ∃ f fd, PySem.W.nsIn K mainGlobals x = some (some (.ref f)) ∧ Fun K x x st f fd
theorem defF_mk {K : PySem.W.Frag} {x : Str} {st : Stmt} {f : Addr} {od an : Option Addr} {sl : Array (Option Value)} {oc kV dc pm cd ct : Value} (a : PySem.W.nsIn K mainGlobals x = some (some (.ref f)))
    (l : K.lookup f = some ⟨oc, od, .func (PySem.W.fnOf x x (defArgs st) (defBody st) (defScope st) .none kV dc pm an cd ct), sl⟩) (c : PySem.W.codeIn K cd x = true) (k : PySem.W.keepIn K (.ref f) = true) : DefF K x st := ⟨f, _, a, fun_mk l c k⟩
theorem gi_mk {K : PySem.W.Frag} {x : Str} {i : Int} {tk : Tok} (a : PySem.W.nsIn K mainGlobals x = some (some (.int i tk))) : ∃ tk, PySem.W.nsIn K mainGlobals x = some (some (.int i tk)) := ⟨tk, a⟩
end BL
end

section
set_option Elab.async false
set_option linter.all false
set_option maxRecDepth 100000
set_option maxHeartbeats 4000000
namespace BL
open PySem PySem.Spec PyProof.Rows L2

/-! ### repr -/
def rReprB (K : PySem.W.Frag) : List V → Hp → VK → Prop := fun xs H Q => ∃ (x : V) (d : PyData), xs = [x] ∧ Dp K H x d ∧ d.showable = true ∧ d.shown.length ≤ sizeLine ∧ d.hasDict = false ∧ d.depth ≤ 60 ∧ Q (.str d.shown) H
theorem cr_repr {X : Cx} (hu : X.A.units + 64 < cLine) (hg : X.A.guards = some []) : CallR X (.builtin "repr") (rReprB X.K) := by
  intro pins s σ H xs us Q I r h0
  obtain ⟨x, d, rfl, hd, sh, sz, nd, dp, q⟩ := h0
  obtain ⟨u, rfl, ru⟩ := vals1 r
  obtain ⟨as, rd⟩ := Dp.reads I d x u hd ru
  have fin : ∀ (h' : Heap) (t : Tok) (tk : Nat), (∀ b o, s.heap.get? b = some o → h'.get? b = some o) → EP X pins σ Q (.str d.shown t) { s with heap := h', toks := tk } := fun h' t tk k => ⟨.str d.shown, H, I.kept k, ⟨t, rfl⟩, q⟩
  cases rd with
  | none => exact P.repr_of_none (fin s.heap _ _ fun _ _ e => e)
  | bool b => exact P.repr_of_bool (fin s.heap _ _ fun _ _ e => e)
  | int i t => exact P.repr_of_int (by simpa [PyData.showable] using sh) (fin s.heap _ _ fun _ _ e => e)
  | str y t => exact P.repr_of_str (fin s.heap _ _ fun _ _ e => e) sz
  | list h1 h2 h3 h4 => exact repr_of_reads' (.list h1 h2 h3 h4) sh (fun e => by rw [nd] at e; cases e) hg (by omega) (fun _ _ e => e) (fun h' u tk k => fin h' u tk k) sz
  | tuple h1 h2 h3 h4 => exact repr_of_reads' (.tuple h1 h2 h3 h4) sh (fun e => by rw [nd] at e; cases e) hg (by omega) (fun _ _ e => e) (fun h' u tk k => fin h' u tk k) sz
  | dict h1 h2 h3 h4 h5 => simp [PyData.hasDict] at nd
def reprD : List D → Option (Fg × D)
  | [d] => (toPy d).bind fun p => if p.showable = true ∧ p.shown.length ≤ sizeLine ∧ p.hasDict = false ∧ p.depth ≤ 60 then some (.sh, .str p.shown) else none
  | _ => none
theorem cs_repr {bx : Bx} : CallS bx (rReprB bx.K) reprD := by
  intro ow H ls vs ds z Q b r e q
  match ds, e with
  | [d], e =>
    simp only [reprD] at e
    obtain ⟨p, e1, e2⟩ := Option.bind_eq_some_iff.mp e
    split at e2
    · rename_i hp
      cases e2
      obtain ⟨v, rfl, r1⟩ := r.one
      exact ⟨v, p, rfl, r1.full.dp e1, hp.1, hp.2.1, hp.2.2.1, hp.2.2.2, q _ _ (EPost.same b (.str _))⟩
    · cases e2
  | [], e => simp [reprD] at e
  | _ :: _ :: _, e => simp [reprD] at e

/-! ### a def of the module, by its name -/
structure Cal (P : Program) (w : World) (K : PySem.W.Frag) (mg : Str → Option Value) (base : Heap) (exC : String → Option Addr) (k : Nat) (x : Str) (n : Nat) (mir : Mir) : Prop where
  ex : ∃ f fd ps, FnG P w K mg base (L2.CX P w) k f fd ps (SpB K exC n mir) ∧ mg x = some (.ref f) ∧ PySem.W.keepIn K (.ref f) = true ∧ Binds K fd ps [] ∧ ∀ kw : List Str, True
theorem passF {X : Cx} (σ : Sg) : PassesAt (L2.CX X.prog X.w) X σ (WE WF σ) := fun _ _ _ _ _ _ h => by
  obtain ⟨_, _, _, _, _, _, _, _, _, _, _, _, z⟩ := h
  exact z.elim
section
variable {X : Cx} {bx : Bx} {W : WX} {e : Expr} {es : List Expr} {t : Env1 → M (Bool × List D)} {x : Str} {p pos : Pos} {n k j : Nat} {mir : Mir}
theorem bc {exC : String → Option Addr} (C : Cal X.prog X.w X.K X.mg X.base exC k x n mir) (r0 : RoomG j X.A) (hkj : k ≤ j) (hx : ∀ σ, PassesAt (L2.CX X.prog X.w) X σ (WE W σ)) (hK : bx.K = X.K) (hE : bx.exC = exC) (hg : Gl X x)
    (ha : PA X (e :: es) (tQ bx W t)) (hdb : (x == ("__debug__" : Str)) = false := by decide) (he : starEach (e :: es) X.env = (false, eval e X.env) :: starEach es X.env := by rfl) (hpl : (backTo pos (starEach es X.env)).any (·.1) = false := by rfl) :
    PE X (.Call (.Name x p) (e :: es) [] pos) (tB bx W (eCall n mir t)) := by
  obtain ⟨f, fd, ps, F, hm, hk, hb, _⟩ := C.ex
  subst hE
  exact be_call (k := k) (fa := f) (fd := fd) (ps := ps) (pe_callG F (r0.mono hkj) hg hm hk hb hx ha hdb he hpl) hK
end
/-- from the facts of the top -/
theorem cal_of {P : Program} {w : World} {K : PySem.W.Frag} {mg : Str → Option Value} {base : Heap} {exC : String → Option Addr} {k n : Nat} {x : Str} {sd : Stmt} {N ps : List Str} {m : SM} (KB : K.In base) (GB : base.Ns mainGlobals mg) (D0 : DefF K x sd) (S : FnScope N ps (defScope sd)) (nn : Nat) (hn : N.length = nn) (hp : n = ps.length)
    (bnd : ∀ (kV doc pm : Value) (an : Option Addr) (cdv ct : Value) (us : List Value), us.length = ps.length → bindArgs (PySem.W.fnOf x x (defArgs sd) (defBody sd) (defScope sd) .none kV doc pm an cdv ct) ⟨us, []⟩ = pure (ps.zip us))
    (body : ∀ (cdv : Value) (A : Around) (fr0 : List Env) (s : Shared) (H : Hp) (E : XK) (f sa : Addr) (O : Addr → Bool) (H0 : Hp) (stt : Option (Addr × Addr)), RoomG k (A.deeper (envOfC x (defScope sd) s.heap.objs.size f cdv)) →
      (∀ σ, PassesAt (L2.CX P w) (cxOf (L2.CX P w) P w K mg base N x (defScope sd) f cdv A fr0 s H E) σ (WE (fun cls d _ H' => E cls d H') σ)) →
      PSs (cxOf (L2.CX P w) P w K mg base N x (defScope sd) f cdv A fr0 s H E) (defBody sd) (sB ⟨K, sa, O, H0, stt, exC⟩ (fun cls d _ H' => E cls d H') m)) : Cal P w K mg base exC (k + 1) x n (mirOf nn m) := by
  obtain ⟨f, fd, h1, F⟩ := D0.ex
  refine ⟨f, fd, ps, fnB F S hn n hp fun cdv A fr0 s H E bx r0 hK hE => ?_, PySem.W.mg_of KB GB h1, F.kp, F.binds bnd, fun _ => trivial⟩
  obtain ⟨K', sa, O, H0, stt, exC'⟩ := bx
  obtain rfl : K' = K := hK
  obtain rfl : exC' = exC := hE
  exact body cdv A fr0 s H E f sa O H0 stt r0 (passAt (takes_of rfl rfl rfl rfl))
end BL
end

section
set_option Elab.async false
set_option linter.all false
set_option maxRecDepth 100000
set_option maxHeartbeats 4000000
namespace BL
open PySem PySem.Spec PyProof.Rows L2

/-! ### d.get(k), d.get(k, x) -/
def getD1 : D → D → Option (Fg × D)
  | .dk kvs, k => (keyD k).map fun k => (.sh, (getK kvs k).getD .non)
  | _, _ => none
theorem getK_of {bx : Bx} {ow : List Addr} {H : Hp} {a : Addr} {vs : List (Key × V)} {kvs : List (Key × D)} {y : V} {dy : D} {k : Key} (h1 : H a = some (.dK vs)) (r1 : RDk bx.K bx.sa (mn bx.O ow H) vs kvs) (ry : RB bx ow H y dy) (e1 : keyD dy = some k) :
    ∃ o, DGet H a y o ∧ ((o = none ∧ getK kvs k = none) ∨ ∃ v d, o = some v ∧ getK kvs k = some d ∧ RD bx.K bx.sa (mn bx.O ow H) v d) := by
  obtain rfl := keyD_of ry e1
  refine ⟨_, DGet.k h1, ?_⟩
  rcases r1.val k with ⟨e4, e5⟩ | ⟨v, d, e4, e5, r⟩
  · exact .inl ⟨e4, e5⟩
  · exact .inr ⟨v, d, e4, e5, r⟩
def eGet1 (f g : Env1 → M (Fg × D)) : Env1 → M (Fg × D) := fun ρ => M.bind (f ρ) fun x => match x.2 with
  | .dk kvs => M.bind (g ρ) fun y => M.opt (getD1 (.dk kvs) y.2)
  | _ => M.bad
def eGet2 (f g k : Env1 → M (Fg × D)) : Env1 → M (Fg × D) := fun ρ => M.bind (f ρ) fun x => match x.2 with
  | .dk kvs => M.bind (g ρ) fun y => M.bind (k ρ) fun z => if z.1 = .bo then M.bad else M.opt ((keyD y.2).map fun key => (.sh, (getK kvs key).getD z.2))
  | _ => M.bad
section
variable {X : Cx} {bx : Bx} {W : WX} {o e e2 : Expr} {f g k : Env1 → M (Fg × D)} {apos cpos pos : Pos}
theorem be_get1 (hu : X.A.units + 1 < cLine) (ho : PE X o (tB bx W f)) (he : PE X e (tB bx W g)) (m : M1 X o "get" apos e cpos) : PE X (.Call (.Attribute o "get" apos) [e] [] cpos) (tB bx W (eGet1 f g)) :=
  PE.imp (pe_dget1 hu ho he m) fun σ H Q h => by
    obtain ⟨ow, tmp, ρ, ls, R, h⟩ := h
    refine ⟨ow, tmp, ρ, ls, R, RunE.first h R fun x H1 zx ls1 P1 R1 h1 => ?_⟩
    obtain ⟨z1, z2⟩ := zx
    have rx := P1.rb R.toBas
    cases z2 with
    | dk kvs =>
      obtain ⟨a, vs, rfl, h2, r2⟩ := rx.dk
      refine ⟨a, rfl, .inl ⟨vs, Rd.of h2⟩, ow, tmp, ρ, ls1, R1, RunE.first h1 R1 fun y H2 zy ls2 P2 R2 h3 => ?_⟩
      obtain ⟨z, e1, q⟩ := opt_ok h3
      simp only [getD1] at e1
      obtain ⟨key, e2, rfl⟩ := Option.map_eq_some_iff.mp e1
      obtain ⟨a', vs', ea, h4, r4⟩ := (rx.after R1.toBas P2.kept).dk
      cases ea
      obtain ⟨o', g1, g2⟩ := getK_of h4 r4 (P2.rb R1.toBas) e2
      refine ⟨o', g1, q _ _ (EPost.same R2.toBas ?_)⟩
      rcases g2 with ⟨rfl, g3⟩ | ⟨v, d, rfl, g3, g4⟩
      · rw [g3]; exact .non
      · rw [g3]; exact g4
    | _ => exact (show False from h1).elim
theorem be_get2 (hu : X.A.units + 1 < cLine) (ho : PE X o (tB bx W f)) (he : PE X e (tB bx W g)) (he2 : PE X e2 (tB bx W k)) (m : M2 X o "get" apos e e2 cpos) : PE X (.Call (.Attribute o "get" apos) [e, e2] [] cpos) (tB bx W (eGet2 f g k)) :=
  PE.imp (pe_dget2 hu ho he he2 m) fun σ H Q h => by
    obtain ⟨ow, tmp, ρ, ls, R, h⟩ := h
    refine ⟨ow, tmp, ρ, ls, R, RunE.first h R fun x H1 zx ls1 P1 R1 h1 => ?_⟩
    obtain ⟨z1, z2⟩ := zx
    have rx := P1.rb R.toBas
    cases z2 with
    | dk kvs =>
      obtain ⟨a, vs, rfl, h2, r2⟩ := rx.dk
      refine ⟨a, rfl, .inl ⟨vs, Rd.of h2⟩, ow, tmp, ρ, ls1, R1, RunE.first h1 R1 fun y H2 zy ls2 P2 R2 h3 => ?_⟩
      refine ⟨ow, tmp, ρ, ls2, R2, RunE.first h3 R2 fun u H3 zu ls3 P3 R3 h4 => ?_⟩
      by_cases nb : zu.1 = .bo
      · rw [if_pos nb] at h4; exact (show False from h4).elim
      rw [if_neg nb] at h4
      obtain ⟨z, e1, q⟩ := opt_ok h4
      obtain ⟨key, e2, rfl⟩ := Option.map_eq_some_iff.mp e1
      obtain ⟨a', vs', ea, h5, r5⟩ := ((rx.after R1.toBas P2.kept).after R2.toBas P3.kept).dk
      cases ea
      obtain ⟨o', g1, g2⟩ := getK_of h5 r5 ((P2.rb R1.toBas).after R2.toBas P3.kept) e2
      refine ⟨o', g1, q _ _ (EPost.same R3.toBas ?_)⟩
      rcases g2 with ⟨rfl, g3⟩ | ⟨v, d, rfl, g3, g4⟩
      · rw [g3]; exact P3.rd R2.toBas nb
      · rw [g3]; exact g4
    | _ => exact (show False from h1).elim

/-! ### keywords -/
theorem bk_nil : PK X [] (tQ bx W qNil) := ⟨fun pos pins s σ H Q I h => pk_nil.run pos pins s σ H Q I (by
  obtain ⟨ow, tmp, ρ, ls, R, h⟩ := h
  exact h [] H Kept.refl R.lsr .nil fun _ => .nil)⟩
theorem bk_cons {kws : List Keyword} {t : Env1 → M (Bool × List D)} {nm : Option Str} {kpos : Pos} (ha : PE X e (tB bx W f)) (hr : PK X kws (tQ bx W t)) : PK X (⟨nm, e, kpos⟩ :: kws) (tQ bx W (qCons f t)) := ⟨fun pos pins s σ H Q I h => (pk_cons ha hr).run pos pins s σ H Q I (by
    obtain ⟨ow, tmp, ρ, ls, R, h⟩ := h
    refine ⟨ow, tmp, ρ, ls, R, ?_⟩
    have h : RunQ bx W ow σ H (M.bind (f ρ) (fun x => M.bind (t ρ) fun xs => M.pure (decide (x.1 = .bo) || xs.1, x.2 :: xs.2)) ls) Q := h
    unfold M.bind at h
    cases e1 : f ρ ls with
    | bad => rw [e1] at h; exact h
    | ex x l => rw [e1] at h; exact h
    | ok z l =>
      rw [e1] at h
      intro v H1 P
      have R1 := R.after P.kept P.lsr
      refine ⟨ow, tmp, ρ, l, R1, ?_⟩
      have h1 := RunQ.shift h P.kept
      simp only at h1
      cases e2 : t ρ l with
      | bad => rw [e2] at h1; exact h1
      | ex x l2 => rw [e2] at h1; exact h1
      | ok ys l2 =>
        rw [e2] at h1
        intro vs H2 k2 l2' rb rd
        have hb := (P.rb R.toBas).after R1.toBas k2
        refine h1 (v :: vs) H2 k2 l2' (.cons hb rb) fun hz => ?_
        have hz : (decide (z.1 = .bo) || ys.1) = false := hz
        have h2 := Bool.or_eq_false_iff.mp hz
        exact .cons ((P.rd R.toBas (of_decide_eq_false h2.1)).mono (k2.mn R1.toBas)) (rd h2.2))⟩
end
/-- as Cal, called by keywords in the parameters' order -/
structure CalK (P : Program) (w : World) (K : PySem.W.Frag) (mg : Str → Option Value) (base : Heap) (exC : String → Option Addr) (k : Nat) (x : Str) (ps : List Str) (n : Nat) (mir : Mir) : Prop where
  ex : ∃ f fd, FnG P w K mg base (L2.CX P w) k f fd ps (SpB K exC n mir) ∧ mg x = some (.ref f) ∧ PySem.W.keepIn K (.ref f) = true ∧ Binds K fd ps [] ∧ ∀ (s : Shared) (us : List Value), us.length = ps.length → BindsTo s fd ⟨[], ps.zip us⟩ (ps.zip us)
theorem CalK.cal {P : Program} {w : World} {K : PySem.W.Frag} {mg : Str → Option Value} {base : Heap} {exC : String → Option Addr} {k n : Nat} {x : Str} {ps : List Str} {mir : Mir} (C : CalK P w K mg base exC k x ps n mir) : Cal P w K mg base exC k x n mir := by
  obtain ⟨f, fd, F, a, b, c, _⟩ := C.ex
  exact ⟨f, fd, ps, F, a, b, c, fun _ => trivial⟩
section
variable {X : Cx} {bx : Bx} {W : WX} {e : Expr} {t : Env1 → M (Bool × List D)} {x : Str} {p pos kp : Pos} {n k j : Nat} {mir : Mir} {ps : List Str} {kws : List Keyword} {nm : Option Str}
theorem pe_callGK0 {f : Addr} {fd : FuncData} {sp : Sp} {E : Sg → XK} {tk : TA} (F : FnG X.prog X.w X.K X.mg X.base (L2.CX X.prog X.w) k f fd ps sp) (r0 : RoomG k X.A) (hg : Gl X x) (hm : X.mg x = some (.ref f)) (hk : PySem.W.keepIn X.K (.ref f) = true) (hb : ∀ (s : Shared) (us : List Value), us.length = ps.length → BindsTo s fd ⟨[], ps.zip us⟩ (ps.zip us))
    (hx : ∀ σ, PassesAt (L2.CX X.prog X.w) X σ (E σ)) (hkw : PK X kws tk) (hall : (backToKw pos (keywordEach kws X.env)).all (·.1.isSome) = true := by rfl) (hks : (backToKw pos (keywordEach kws X.env)).filterMap (·.1) = ps := by rfl)
    (hdb : (x == ("__debug__" : Str)) = false := by decide) (hpl : ((backTo pos (starEach [] X.env)).any (·.1) || (backToKw pos (keywordEach kws X.env)).any (·.1.isNone)) = false := by rfl) : PE X (.Call (.Name x p) [] kws pos) (tCallG sp E tk) := by
  refine ⟨fun pins s σ H Q I h0 => ?_⟩
  refine wpAny_Call_Name_kw (ld_glob I hg hm ?_ hdb)
  refine PySem.W.callWith_KW0 (h₀ := X.base) I.ok.mod.kin hk hall (thn (hkw.run pos pins s σ H _ I h0) fun ws s2 ⟨zs, H2, I2, rz, q2⟩ => ⟨I2.kIn, ?_⟩) hpl
  rw [hks]
  have hl : ws.length = ps.length := by rw [← rz.length]; exact F.len _ _ _ _ q2
  exact go_call (args := ⟨[], ps.zip ws⟩) F r0 (hb s2 ws hl) (hx σ) I2 rz q2
theorem bcK {exC : String → Option Addr} (C : CalK X.prog X.w X.K X.mg X.base exC k x ps n mir) (r0 : RoomG j X.A) (hkj : k ≤ j) (hx : ∀ σ, PassesAt (L2.CX X.prog X.w) X σ (WE W σ)) (hK : bx.K = X.K) (hE : bx.exC = exC) (hg : Gl X x)
    (ha : PK X kws (tQ bx W t)) (hall : (backToKw pos (keywordEach kws X.env)).all (·.1.isSome) = true := by rfl) (hks : (backToKw pos (keywordEach kws X.env)).filterMap (·.1) = ps := by rfl)
    (hdb : (x == ("__debug__" : Str)) = false := by decide) (hpl : ((backTo pos (starEach [] X.env)).any (·.1) || (backToKw pos (keywordEach kws X.env)).any (·.1.isNone)) = false := by rfl) :
    PE X (.Call (.Name x p) [] kws pos) (tB bx W (eCall n mir t)) := by
  obtain ⟨f, fd, F, hm, hk, _, hb⟩ := C.ex
  subst hE
  exact be_call (k := k) (fa := f) (fd := fd) (ps := ps) (pe_callGK0 (F.mono hkj) r0 hg hm hk hb hx ha hall hks hdb hpl) hK
end
theorem cal_ofK {P : Program} {w : World} {K : PySem.W.Frag} {mg : Str → Option Value} {base : Heap} {exC : String → Option Addr} {k n : Nat} {x : Str} {sd : Stmt} {N ps : List Str} {m : SM} (KB : K.In base) (GB : base.Ns mainGlobals mg) (D0 : DefF K x sd) (S : FnScope N ps (defScope sd)) (nn : Nat) (hn : N.length = nn) (hp : n = ps.length)
    (bnd : ∀ (kV doc pm : Value) (an : Option Addr) (cdv ct : Value) (us : List Value), us.length = ps.length → bindArgs (PySem.W.fnOf x x (defArgs sd) (defBody sd) (defScope sd) .none kV doc pm an cdv ct) ⟨us, []⟩ = pure (ps.zip us))
    (bndK : ∀ (kV doc pm : Value) (an : Option Addr) (cdv ct : Value) (us : List Value), us.length = ps.length → bindArgs (PySem.W.fnOf x x (defArgs sd) (defBody sd) (defScope sd) .none kV doc pm an cdv ct) ⟨[], ps.zip us⟩ = pure (ps.zip us))
    (body : ∀ (cdv : Value) (A : Around) (fr0 : List Env) (s : Shared) (H : Hp) (E : XK) (f sa : Addr) (O : Addr → Bool) (H0 : Hp) (stt : Option (Addr × Addr)), RoomG k (A.deeper (envOfC x (defScope sd) s.heap.objs.size f cdv)) →
      (∀ σ, PassesAt (L2.CX P w) (cxOf (L2.CX P w) P w K mg base N x (defScope sd) f cdv A fr0 s H E) σ (WE (fun cls d _ H' => E cls d H') σ)) →
      PSs (cxOf (L2.CX P w) P w K mg base N x (defScope sd) f cdv A fr0 s H E) (defBody sd) (sB ⟨K, sa, O, H0, stt, exC⟩ (fun cls d _ H' => E cls d H') m)) : CalK P w K mg base exC (k + 1) x ps n (mirOf nn m) := by
  obtain ⟨f, fd, h1, F⟩ := D0.ex
  refine ⟨f, fd, fnB F S hn n hp fun cdv A fr0 s H E bx r0 hK hE => ?_, PySem.W.mg_of KB GB h1, F.kp, F.binds bnd, ?_⟩
  · obtain ⟨K', sa, O, H0, stt, exC'⟩ := bx
    obtain rfl : K' = K := hK
    obtain rfl : exC' = exC := hE
    exact body cdv A fr0 s H E f sa O H0 stt r0 (passAt (takes_of rfl rfl rfl rfl))
  · intro s us hl
    obtain ⟨oc, od, kV, doc, pm, an, cdv, ct, osl, rfl, lk, hcd⟩ := F.ex
    exact .of_eq (bndK kV doc pm an cdv ct us hl)
/-! ### a dict, tested against the empty one -/
def rNeD0 : R2 := fun x y H Q => ∃ a b ks, x = .ref a ∧ y = .ref b ∧ H a = some (.dK ks) ∧ H b = some (.dK []) ∧ Q (.bl (!ks.isEmpty)) H
theorem op_neD0 {X : Cx} (hu : X.A.units < cLine) : OpR X (compareOp .NotEq) rNeD0 := by
  intro pins s σ H x y v u Q I rx ry h
  obtain ⟨a, b, ks, rfl, rfl, ea, eb, q⟩ := h
  obtain rfl : v = Value.ref a := rx
  obtain rfl : u = Value.ref b := ry
  obtain ⟨_, ya, va, ra, da⟩ := (show ObjOk X.prog X.w H s.heap a (.dK ks) from I.hok a _ ea)
  obtain ⟨_, yb, vb, rb, db⟩ := (show ObjOk X.prog X.w H s.heap b (.dK []) from I.hok b _ eb)
  have hl : ks.length = va.length := ra.length
  have hl2 : ([] : List (Key × V)).length = vb.length := rb.length
  refine PySem.W.keq_ne (knd := mixKind X.prog X.w) (r := true) ya yb da db hu (fun e => ?_) (fin_bl I q ?_)
  · have h0 : vb.length = 0 := by simp at hl2; omega
    have hv : va = [] := List.eq_nil_of_length_eq_zero (by omega)
    subst hv
    exact .nil
  · have h0 : vb.length = 0 := by simp at hl2; omega
    rw [h0, ← hl]
    cases ks <;> simp
def neD0 : D → D → Option (Fg × D)
  | .dk kvs, .dk [] => some (.sh, .bl (!kvs.isEmpty))
  | _, _ => none
theorem RDk.nil_eq {K : PySem.W.Frag} {sa : Addr} {H : Hp} : ∀ {vs : List (Key × V)} {ds : List (Key × D)}, RDk K sa H vs ds → vs.isEmpty = ds.isEmpty
  | _, _, .nil => rfl
  | _, _, .cons _ _ => rfl
theorem ops_ne0 {bx : Bx} : OpS bx rNeD0 neD0 := by
  intro ow H ls x y dx dy z Q b rx ry e q
  cases dx with
  | dk kvs =>
    cases dy with
    | dk kv2 =>
      cases kv2 with
      | nil =>
        simp only [neD0] at e
        cases e
        obtain ⟨a, vs, rfl, h1, r1⟩ := rx.dk
        obtain ⟨a2, vs2, rfl, h2, r2⟩ := ry.dk
        cases r2
        refine ⟨a, a2, vs, rfl, rfl, h1, h2, q _ _ ?_⟩
        rw [r1.nil_eq]
        exact EPost.same b (.bl _)
      | cons p q => simp [neD0] at e
    | _ => simp [neD0] at e
  | _ => simp [neD0] at e
end BL
end

section
set_option Elab.async false
set_option linter.all false
set_option maxRecDepth 100000
set_option maxHeartbeats 4000000
namespace BL
open PySem PySem.Spec PyProof.Rows L2

/-! ### the drawing state: what a def does with it -/
def stAt (ρ : Env1) (i : Nat) : Bool := match ρ[i]? with
  | some (some (false, .st)) => true
  | _ => false
theorem RD.isSt {K : PySem.W.Frag} {sa : Addr} {H : Hp} {v : V} (r : RD K sa H v .st) : v = .ref sa := by cases r; rfl
section
variable {bx : Bx} {ow : List Addr} {tmp : List Hp} {ρ : Env1} {σ : Sg} {H : Hp} {ls : LS}
theorem Rel.state (R : Rel bx ow tmp ρ σ H ls) {i : Nat} (h : stAt ρ i = true) (on : ls.on = true) : σ[i]? = some (some (.ref bx.sa)) ∧ ∃ ca la, bx.stt = some (ca, la) ∧ bx.sa ≠ la ∧ bx.sa ≠ ca ∧ ca ≠ la ∧ ls.lefts.length = ls.cells.length ∧ 0 < ls.cells.length ∧ ls.cells.length ≤ 63 ∧ 0 ≤ ls.here ∧
    H bx.sa = some (.dK (kvState ca la ls.here)) ∧ H ca = some (.lst (ls.cells.map V.int)) ∧ H la = some (.lst (ls.lefts.map V.int)) := by
  unfold stAt at h
  split at h
  · rename_i e
    obtain ⟨v, h1, h2⟩ := R.sh i _ e
    obtain rfl := h2.isSt
    refine ⟨h1, ?_⟩
    have l := R.lsr
    unfold LSR at l
    split at l
    · rw [l] at on; cases on
    · rename_i ca la es
      exact ⟨ca, la, es, l.2⟩
  · cases h
end
theorem kvAt (ca la : Addr) (n : Int) : valV (kvState ca la n) (.inr (Str.ofString "at")) = some (.int n) := rfl
theorem kvCells (ca la : Addr) (n : Int) : valV (kvState ca la n) (.inr (Str.ofString "cells")) = some (.ref ca) := rfl
theorem kvLefts (ca la : Addr) (n : Int) : valV (kvState ca la n) (.inr (Str.ofString "lefts")) = some (.ref la) := rfl
theorem kvPut (ca la : Addr) (n m : Int) : putK (kvState ca la n) (.inr (Str.ofString "at")) (.int m) = kvState ca la m := rfl

/-- s['at'] -/
def eStAt (i : Nat) : Env1 → M (Fg × D) := fun ρ ls => if stAt ρ i = true ∧ ls.on = true then .ok (.sh, .int ls.here) ls else .bad
/-- len(s['cells']) -/
def eStLen (i : Nat) : Env1 → M (Fg × D) := fun ρ ls => if stAt ρ i = true ∧ ls.on = true then .ok (.sh, .int ls.cells.length) ls else .bad
/-- s['cells'][g], s['lefts'][g] -/
def eStCell (i : Nat) (g : Env1 → M (Fg × D)) : Env1 → M (Fg × D) := fun ρ ls => if stAt ρ i = true ∧ ls.on = true then M.bind (g ρ) (fun z ls' => match z.2 with
  | .int j => match atI ls'.cells j with
    | some c => if ls'.on = true then .ok (.sh, .int c) ls' else .bad
    | none => .bad
  | _ => .bad) ls else .bad
def eStLeft (i : Nat) (g : Env1 → M (Fg × D)) : Env1 → M (Fg × D) := fun ρ ls => if stAt ρ i = true ∧ ls.on = true then M.bind (g ρ) (fun z ls' => match z.2 with
  | .int j => match atI ls'.lefts j with
    | some c => if ls'.on = true then .ok (.sh, .int c) ls' else .bad
    | none => .bad
  | _ => .bad) ls else .bad
/-- s['at'] = f -/
def sStAt (i : Nat) (f : Env1 → M (Fg × D)) : SM := fun ρ ls => stE (f ρ ls) ρ fun z ls' => match z.2 with
  | .int n => if stAt ρ i = true ∧ ls'.on = true ∧ 0 ≤ n then .ok (.nx ρ) { ls' with here := n } else .bad
  | _ => .bad
/-- s['lefts'][g] = f -/
def sStLeft (i : Nat) (g f : Env1 → M (Fg × D)) : SM := fun ρ ls => stE (f ρ ls) ρ fun z ls1 => match z.2 with
  | .int n => if stAt ρ i = true ∧ ls1.on = true then stE (g ρ ls1) ρ fun y ls2 => match y.2 with
    | .int j => match ixN ls2.lefts.length j with
      | some k => if ls2.on = true then .ok (.nx ρ) { ls2 with lefts := ls2.lefts.set k n } else .bad
      | none => .bad
    | _ => .bad else .bad
  | _ => .bad
theorem atI_map {f : Int → V} {xs : List Int} {i : Int} {c : Int} (h : atI xs i = some c) : atI (xs.map f) i = some (f c) := by
  unfold atI at h ⊢
  rw [List.length_map]
  cases e : ixN xs.length i with
  | none => rw [e] at h; cases h
  | some j =>
    rw [e] at h
    show (xs.map f)[j]? = _
    rw [List.getElem?_map, show xs[j]? = some c from h]
    rfl
section
variable {X : Cx} {bx : Bx} {W : WX} {a b c e : Expr} {f g : Env1 → M (Fg × D)} {pos p1 p2 p3 : Pos} {i : Nat} {x : Str} {kc : Nat} {st : Stmt}
/-- the raw subscript -/
theorem raw_st (hu : X.A.units + 1 < cLine) {y : Str} (hN : X.N[i]? = some x) (hv : Vis X.env.scope x) (hd : (x == ("__debug__" : Str)) = false := by decide) (hcd : (x == ("__classdict__" : Str)) = false := by decide) :
    PE X (.Subscript (.Name x p1) (.Constant (.str y) kc p2) pos) (tOp rIxD0 (tVar i) (tC (.str y))) := pe_ix (ix_dict0 hu) (pe_var hN hv hd hcd) pe_str fun _ _ => rfl
theorem be_stAt (h : PE X e (tOp rIxD0 (tVar i) (tC (.str (Str.ofString "at"))))) : PE X e (tB bx W (eStAt i)) := PE.imp h fun σ H Q h => by
  obtain ⟨ow, tmp, ρ, ls, R, h⟩ := h
  have h : RunE bx W ow σ H (eStAt i ρ ls) Q := h
  unfold eStAt at h
  split at h
  · rename_i hs
    obtain ⟨h1, ca, la, es, n1, n2, n3, n4, n5, n6, n7, g1, g2, g3⟩ := R.state hs.1 hs.2
    exact ⟨.ref bx.sa, h1, bx.sa, .int ls.here, rfl, kvAt ca la ls.here ▸ DGet.k (k := .inr (Str.ofString "at")) g1, h _ H (EPost.same R.toBas (.int _))⟩
  · exact (show False from h).elim
theorem be_stLen (h : PE X e (tCB (rLenB X.K) (tCons (tOp rIxD0 (tVar i) (tC (.str (Str.ofString "cells")))) tNil))) : PE X e (tB bx W (eStLen i)) := PE.imp h fun σ H Q h => by
  obtain ⟨ow, tmp, ρ, ls, R, h⟩ := h
  have h : RunE bx W ow σ H (eStLen i ρ ls) Q := h
  unfold eStLen at h
  split at h
  · rename_i hs
    obtain ⟨h1, ca, la, es, n1, n2, n3, n4, n5, n6, n7, g1, g2, g3⟩ := R.state hs.1 hs.2
    refine ⟨.ref bx.sa, h1, bx.sa, .ref ca, rfl, kvCells ca la ls.here ▸ DGet.k (k := .inr (Str.ofString "cells")) g1, .inl ⟨.ref ca, ls.cells.length, rfl, .inl ⟨_, SqL.of g2, by simp⟩, h _ H (EPost.same R.toBas (.int _))⟩⟩
  · exact (show False from h).elim
theorem be_stCell (h : PE X e (tOp (rIxB X.K) (tOp rIxD0 (tVar i) (tC (.str (Str.ofString "cells")))) (tB bx W g))) : PE X e (tB bx W (eStCell i g)) := PE.imp h fun σ H Q h => by
  obtain ⟨ow, tmp, ρ, ls, R, h⟩ := h
  have h : RunE bx W ow σ H (eStCell i g ρ ls) Q := h
  unfold eStCell at h
  split at h
  · rename_i hs
    obtain ⟨h1, ca, la, es, n1, n2, n3, n4, n5, n6, n7, g1, g2, g3⟩ := R.state hs.1 hs.2
    refine ⟨.ref bx.sa, h1, bx.sa, .ref ca, rfl, kvCells ca la ls.here ▸ DGet.k (k := .inr (Str.ofString "cells")) g1, ow, tmp, ρ, ls, R, RunE.first h R fun y H1 z ls1 P1 R1 q => ?_⟩
    obtain ⟨z1, z2⟩ := z
    have ry := P1.rb R.toBas
    cases z2 with
    | int j =>
      obtain rfl := ry.int
      have q : RunE bx W ow σ H1 ((match atI ls1.cells j with
        | some c => if ls1.on = true then .ok (.sh, .int c) ls1 else .bad
        | none => .bad : Res (Fg × D))) Q := q
      cases e1 : atI ls1.cells j with
      | none => rw [e1] at q; exact (show False from q).elim
      | some c =>
        rw [e1] at q
        by_cases on : ls1.on = true
        · simp only [if_pos on] at q
          obtain ⟨_, ca', la', es', _, _, _, _, _, _, _, _, g2', _⟩ := R1.state hs.1 on
          rw [es] at es'
          cases es'
          exact .inl (.inl ⟨ca, _, j, .int c, rfl, rfl, SqL.of g2', atI_map e1, q _ H1 (EPost.same R1.toBas (.int _))⟩)
        · simp only [if_neg on] at q; exact (show False from q).elim
    | _ => exact (show False from q).elim
  · exact (show False from h).elim
theorem be_stLeft (h : PE X e (tOp (rIxB X.K) (tOp rIxD0 (tVar i) (tC (.str (Str.ofString "lefts")))) (tB bx W g))) : PE X e (tB bx W (eStLeft i g)) := PE.imp h fun σ H Q h => by
  obtain ⟨ow, tmp, ρ, ls, R, h⟩ := h
  have h : RunE bx W ow σ H (eStLeft i g ρ ls) Q := h
  unfold eStLeft at h
  split at h
  · rename_i hs
    obtain ⟨h1, ca, la, es, n1, n2, n3, n4, n5, n6, n7, g1, g2, g3⟩ := R.state hs.1 hs.2
    refine ⟨.ref bx.sa, h1, bx.sa, .ref la, rfl, kvLefts ca la ls.here ▸ DGet.k (k := .inr (Str.ofString "lefts")) g1, ow, tmp, ρ, ls, R, RunE.first h R fun y H1 z ls1 P1 R1 q => ?_⟩
    obtain ⟨z1, z2⟩ := z
    have ry := P1.rb R.toBas
    cases z2 with
    | int j =>
      obtain rfl := ry.int
      have q : RunE bx W ow σ H1 ((match atI ls1.lefts j with
        | some c => if ls1.on = true then .ok (.sh, .int c) ls1 else .bad
        | none => .bad : Res (Fg × D))) Q := q
      cases e1 : atI ls1.lefts j with
      | none => rw [e1] at q; exact (show False from q).elim
      | some c =>
        rw [e1] at q
        by_cases on : ls1.on = true
        · simp only [if_pos on] at q
          obtain ⟨_, ca', la', es', _, _, _, _, _, _, _, _, _, g3'⟩ := R1.state hs.1 on
          rw [es] at es'
          cases es'
          exact .inl (.inl ⟨la, _, j, .int c, rfl, rfl, SqL.of g3', atI_map e1, q _ H1 (EPost.same R1.toBas (.int _))⟩)
        · simp only [if_neg on] at q; exact (show False from q).elim
    | _ => exact (show False from q).elim
  · exact (show False from h).elim
/-- the state's own change -/
theorem Rel.moved {ow : List Addr} {tmp : List Hp} {ρ : Env1} {σ : Sg} {H H' : Hp} {ls ls' : LS} {p : Addr} {o : HO} (R : Rel bx ow tmp ρ σ H ls) (hp : bx.S p = true) (e : H' = L2.upd H p o) (l : LSR bx H' ls') : Rel bx ow tmp ρ σ H' ls' :=
  R.after (fun a u h1 h2 => by
    have ea : a ≠ p := fun z => by rw [z, hp] at h2; cases h2
    rw [e, upd_ne ea]; exact h1) l
theorem bs_stAt (h : PS X st (tAsg (tB bx W f) (gSub (tVar i) (tC (.str (Str.ofString "at"))) rSetB))) : PS X st (sB bx W (sStAt i f)) := PS.imp h fun D σ H h => by
  obtain ⟨ow, tmp, ρ, ls, R, h⟩ := h
  refine ⟨ow, tmp, ρ, ls, R, RunS.first h R fun v H1 z ls1 P q => ?_⟩
  obtain ⟨z1, z2⟩ := z
  have rv := P.rb R.toBas
  have R1 := R.after P.kept P.lsr
  cases z2 with
  | int n =>
    obtain rfl := rv.int
    have q : RunS bx W tmp D (if stAt ρ i = true ∧ ls1.on = true ∧ 0 ≤ n then .ok (.nx ρ) { ls1 with here := n } else .bad) := q
    split at q
    · rename_i hs
      obtain ⟨h1, ca, la, es, n1, n2, n3, n4, n5, n6, n7, g1, g2, g3⟩ := R1.state hs.1 hs.2.1
      refine ⟨.ref bx.sa, h1, .inr ⟨bx.sa, _, rfl, DPut.k (k := .inr (Str.ofString "at")) g1 (by show 3 < sizeLine; decide), ?_⟩⟩
      rw [kvPut]
      refine q ow σ _ (R1.moved (p := bx.sa) (by unfold Bx.S; rw [es]; simp) rfl ?_)
      unfold LSR
      rw [es]
      exact ⟨hs.2.1, n1, n2, n3, n4, n5, n6, hs.2.2, upd_same, by rw [upd_ne (Ne.symm n2)]; exact g2, by rw [upd_ne (Ne.symm n1)]; exact g3⟩
    · exact (show False from q).elim
  | _ => exact (show False from q).elim
theorem bs_stLeft (h : PS X st (tAsg (tB bx W f) (gSub (tOp rIxD0 (tVar i) (tC (.str (Str.ofString "lefts")))) (tB bx W g) rSetB))) : PS X st (sB bx W (sStLeft i g f)) := PS.imp h fun D σ H h => by
  obtain ⟨ow, tmp, ρ, ls, R, h⟩ := h
  refine ⟨ow, tmp, ρ, ls, R, RunS.first h R fun v H1 z ls1 P q => ?_⟩
  obtain ⟨z1, z2⟩ := z
  have rv := P.rb R.toBas
  have R1 := R.after P.kept P.lsr
  cases z2 with
  | int n =>
    obtain rfl := rv.int
    have q : RunS bx W tmp D (if stAt ρ i = true ∧ ls1.on = true then stE (g ρ ls1) ρ fun y ls2 => match y.2 with
      | .int j => match ixN ls2.lefts.length j with
        | some k => if ls2.on = true then .ok (.nx ρ) { ls2 with lefts := ls2.lefts.set k n } else .bad
        | none => .bad
      | _ => .bad else .bad) := q
    split at q
    · rename_i hs
      obtain ⟨h1, ca, la, es, n1, n2, n3, n4, n5, n6, n7, g1, g2, g3⟩ := R1.state hs.1 hs.2
      refine ⟨.ref bx.sa, h1, bx.sa, .ref la, rfl, kvLefts ca la ls1.here ▸ DGet.k (k := .inr (Str.ofString "lefts")) g1, ow, tmp, ρ, ls1, R1, RunS.first q R1 fun y H2 zy ls2 P2 q2 => ?_⟩
      obtain ⟨y1, y2⟩ := zy
      have ry := P2.rb R1.toBas
      have R2 := R1.after P2.kept P2.lsr
      cases y2 with
      | int j =>
        obtain rfl := ry.int
        have q2 : RunS bx W tmp D (match ixN ls2.lefts.length j with
          | some k => if ls2.on = true then .ok (.nx ρ) { ls2 with lefts := ls2.lefts.set k n } else .bad
          | none => .bad) := q2
        cases e1 : ixN ls2.lefts.length j with
        | none => rw [e1] at q2; exact (show False from q2).elim
        | some k =>
          rw [e1] at q2
          by_cases on : ls2.on = true
          · simp only [if_pos on] at q2
            obtain ⟨_, ca', la', es', m1, m2, m3, m4, m5, m6, m7, k1, k2, k3⟩ := R2.state hs.1 on
            rw [es] at es'
            cases es'
            refine .inl ⟨la, _, j, k, rfl, rfl, k3, by rw [List.length_map]; exact e1, q2 ow σ _ (R2.moved (p := la) (by unfold Bx.S; rw [es]; simp) rfl ?_)⟩
            unfold LSR
            rw [es]
            refine ⟨on, m1, m2, m3, by rw [List.length_set]; exact m4, m5, m6, m7, by rw [upd_ne m1]; exact k1, by rw [upd_ne m3]; exact k2, ?_⟩
            rw [upd_same, List.map_set]
          · simp only [if_neg on] at q2; exact (show False from q2).elim
      | _ => exact (show False from q2).elim
    · exact (show False from q).elim
  | _ => exact (show False from q).elim
end
end BL
end

section
set_option Elab.async false
set_option linter.all false
set_option maxRecDepth 100000
set_option maxHeartbeats 4000000
namespace BL
open PySem PySem.Spec PyProof.Rows L2

/-! ### runs of mirrors -/
theorem M.bind_ok {α β : Type} {m : M α} {f : α → M β} {s s' : LS} {a : α} (h : m s = .ok a s') : M.bind m f s = f a s' := by unfold M.bind; rw [h]
theorem stE_ok {α : Type} {r : Res α} {ρ : Env1} {k : α → LS → Res Oc} {a : α} {s : LS} (h : r = .ok a s) : stE r ρ k = k a s := by rw [h]; rfl
theorem noex_ok {α : Type} {m : M α} {s s' : LS} {a : α} (h : m s = .ok a s') : noex m s = .ok a s' := by unfold noex; rw [h]

theorem shaped_ints (ns : List Int) : SeqAt.shaped (.list (ns.map .int)) = true := by
  have h1 : PyData.canLayAll0 (ns.map PyData.int) = true := by
    induction ns with
    | nil => rfl
    | cons n ns ih => simp [PyData.canLayAll0, PyData.canLay0, ih]
  have h2 : PyData.depthAll (ns.map PyData.int) = 0 := by
    induction ns with
    | nil => simp [PyData.depthAll]
    | cons n ns ih =>
      have : PyData.canLayAll0 (ns.map PyData.int) = true := by simpa [PyData.canLayAll0, PyData.canLay0] using h1
      simp [PyData.depthAll, PyData.depth, ih this]
  simp [SeqAt.shaped, PyData.canLay0, h1, PyData.depth, h2]
theorem neD_scr (ns : List Int) : neD (.scr ns) (.lst []) = some (.sh, .bl (!ns.isEmpty)) := by
  have h0 : SeqAt.shaped (.list []) = true := shaped_ints []
  unfold neD eqB
  simp only [toPy, toPys, Option.map_some]
  rw [if_pos ⟨shaped_ints ns, h0⟩]
  cases ns with
  | nil => simp [PyData.eqv, PyData.eqvAll]
  | cons n ns => simp [PyData.eqv, PyData.eqvAll]

/-! ### the state's beginning -/
def cellsOf (ns : List Int) : List Int := if ns.isEmpty = true then [0] else ns
def leftsOf (ns : List Int) : List Int := (cellsOf ns).map fun c => if 10 ^ 18 ≤ c then c else 0
def spBegin (K : PySem.W.Frag) : Sp := fun vs H Q _ => ∃ (a : Addr) (ns : List Int), vs = [.ref a] ∧ SqL K H a (ns.map V.int) ∧ ns.length ≤ 63 ∧ ∀ sa ca la H', sa ≠ la → sa ≠ ca → ca ≠ la →
  H' sa = some (.dK (kvState ca la 0)) → H' ca = some (.lst ((cellsOf ns).map V.int)) → H' la = some (.lst ((leftsOf ns).map V.int)) → Q (.ref sa) H'
def mBegin1 : SM := sSet 1 (eIf (tOf (eOp neD (eName 0) (eLst aNil))) (eCB listD (rCons (eName 0) aNil)) (eLst (aCons (eC (.int 0)) aNil)))
def mBegin2 : SM := sUn 1 (sSet 2 (eLc (iSeq (eName 1)) (tgN 3) bYes (eIf (tOf (eOp geD (eName 3) (eOp powD (eC (.int 10)) (eC (.int 18))))) (eName 3) (eC (.int 0))) [3]))
def lsOff : LS := ⟨false, [], [], 0⟩
theorem run_begin1 (ns : List Int) : mBegin1 (startB 4 [.scr ns]) lsOff = .ok (.nx [some (false, .scr ns), some (true, .lst ((cellsOf ns).map .int)), none, none]) lsOff := by
  have e0 : startB 4 [D.scr ns] = [some (false, .scr ns), none, none, none] := rfl
  rw [e0]
  have t : tOf (eOp neD (eName 0) (eLst aNil)) [some (false, D.scr ns), none, none, none] lsOff = .ok (!ns.isEmpty) lsOff := by
    have e1 : eOp neD (eName 0) (eLst aNil) [some (false, D.scr ns), none, none, none] lsOff = M.opt (neD (.scr ns) (.lst [])) lsOff := by
      show M.bind _ _ _ = _
      rfl
    show M.bind _ _ _ = _
    unfold M.bind
    rw [e1, neD_scr]
    rfl
  cases ns with
  | nil =>
    unfold mBegin1 sSet
    rw [stE_ok (a := (.fr, .lst [.int 0])) (s := lsOff)]
    · rfl
    · show M.bind _ _ _ = _
      rw [M.bind_ok t]
      rfl
  | cons n ns =>
    unfold mBegin1 sSet
    rw [stE_ok (a := (.fr, .lst ((n :: ns).map .int))) (s := lsOff)]
    · rfl
    · show M.bind _ _ _ = _
      rw [M.bind_ok t]
      rfl
theorem lc_begin : ∀ (cs : List Int) (ds acc : List D), acc.length + cs.length ≤ 1000 →
    lcL (tgN 3) bYes (eIf (tOf (eOp geD (eName 3) (eOp powD (eC (.int 10)) (eC (.int 18))))) (eName 3) (eC (.int 0))) (wipe1 [ds[0]?.map fun d => (false, d), ds[1]?.map fun d => (false, d), none, none] [3]) (cs.map .int) acc lsOff = .ok (acc ++ (cs.map fun c => if 10 ^ 18 ≤ c then c else 0).map .int) lsOff
  | [], ds, acc, _ => by simp [lcL, M.pure]
  | c :: cs, ds, acc, hl => by
    have hz : acc.length < sizeLine := by rw [sizeLine_eq]; simp at hl; omega
    have ih := lc_begin cs ds (acc ++ [.int (if 10 ^ 18 ≤ c then c else 0)]) (by simp at hl ⊢; omega)
    rw [List.map_cons, lcL]
    have e1 : tgN 3 (.int c) (wipe1 [ds[0]?.map fun d => (false, d), ds[1]?.map fun d => (false, d), none, none] [3]) = some [ds[0]?.map fun d => (false, d), ds[1]?.map fun d => (false, d), none, some (false, .int c)] := rfl
    rw [e1]
    have e2 : (eIf (tOf (eOp geD (eName 3) (eOp powD (eC (.int 10)) (eC (.int 18))))) (eName 3) (eC (.int 0))) [ds[0]?.map fun d => (false, d), ds[1]?.map fun d => (false, d), none, some (false, .int c)] lsOff = .ok (.sh, .int (if 10 ^ 18 ≤ c then c else 0)) lsOff := by
      have e3 : (tOf (eOp geD (eName 3) (eOp powD (eC (.int 10)) (eC (.int 18))))) [ds[0]?.map fun d => (false, d), ds[1]?.map fun d => (false, d), none, some (false, .int c)] lsOff = .ok (decide (10 ^ 18 ≤ c)) lsOff := by
        show M.bind _ _ _ = _
        have e4 : eOp geD (eName 3) (eOp powD (eC (.int 10)) (eC (.int 18))) [ds[0]?.map fun d => (false, d), ds[1]?.map fun d => (false, d), none, some (false, .int c)] lsOff = .ok (.sh, .bl (decide (10 ^ 18 ≤ c))) lsOff := by
          rfl
        rw [M.bind_ok e4]
        rfl
      show M.bind _ _ _ = _
      rw [M.bind_ok e3]
      by_cases h : 10 ^ 18 ≤ c
      · rw [decide_eq_true h, if_pos rfl, if_pos h]; rfl
      · rw [decide_eq_false h, if_neg (by decide), if_neg h]; rfl
    show M.bind _ _ _ = _
    rw [M.bind_ok (noex_ok (show bYes _ lsOff = .ok true lsOff from rfl)), if_pos rfl, M.bind_ok (noex_ok e2)]
    rw [if_neg (show ¬ ((Fg.sh, D.int (if 10 ^ 18 ≤ c then c else 0)).1 = Fg.bo) from nofun), if_pos hz, ih, List.append_assoc]
    rfl
theorem run_begin2 (ns : List Int) (hl : ns.length ≤ 63) : mBegin2 [some (false, .scr ns), some (true, .lst ((cellsOf ns).map .int)), none, none] lsOff =
    .ok (.nx [some (false, .scr ns), some (false, .lst ((cellsOf ns).map .int)), some (true, .lst ((leftsOf ns).map .int)), none]) lsOff := by
  have hc : (cellsOf ns).length ≤ 63 := by
    unfold cellsOf
    split
    · simp
    · exact hl
  show sSet 2 _ (unEnv 1 _) lsOff = _
  have e0 : unEnv 1 [some (false, D.scr ns), some (true, .lst ((cellsOf ns).map .int)), none, none] = [some (false, .scr ns), some (false, .lst ((cellsOf ns).map .int)), none, none] := rfl
  rw [e0]
  unfold sSet
  rw [stE_ok (a := (.fr, .lst ((leftsOf ns).map .int))) (s := lsOff)]
  · rfl
  · show M.bind _ _ _ = _
    rw [M.bind_ok (show iSeq (eName 1) [some (false, D.scr ns), some (false, .lst ((cellsOf ns).map .int)), none, none] lsOff = .ok ((cellsOf ns).map D.int) lsOff from rfl)]
    rw [M.bind_ok (a := (leftsOf ns).map D.int) (s' := lsOff)]
    · rfl
    · have h := lc_begin (cellsOf ns) [.scr ns, .lst ((cellsOf ns).map .int)] [] (by simp; omega)
      rw [List.nil_append] at h
      exact h
abbrev trBegin : List (TE × TE) := [(tC (.str (Str.ofString "cells")), tVar 1), (tC (.str (Str.ofString "lefts")), tVar 2), (tC (.str (Str.ofString "at")), tC (.int 0))]
theorem RDs.unInts {K : PySem.W.Frag} {sa : Addr} {H : Hp} : ∀ {ns : List Int} {vs : List V}, RDs K sa H vs (ns.map D.int) → vs = ns.map V.int
  | [], _, r => by cases r; rfl
  | n :: ns, _, r => by
    rw [List.map_cons] at r
    cases r with
    | cons a r => cases a; rw [RDs.unInts r]; rfl
theorem read_begin {K : PySem.W.Frag} {exC : String → Option Addr} {W : WX} {N : List Str} (hN : N.length = 4) {vs : List V} {H : Hp} {Q : VK} {E : XK} (h : spBegin K vs H Q E) :
    tSeq (sB ⟨K, 0, fun _ => false, H, none, exC⟩ W mBegin1) (tSeq (sB ⟨K, 0, fun _ => false, H, none, exC⟩ W mBegin2) (tRet (tDisp trBegin))) { nx := fun _ H' => Q .non H', rt := Q } (L2.start N vs) H := by
  obtain ⟨a, ns, rfl, hS, hl, q⟩ := h
  have en : Ent ⟨K, 0, fun _ => false, H, none, exC⟩ lsOff := ⟨fun a h => (nomatch (show false = true from h)), fun a h => (nomatch (show false = true from h)), fun _ _ h => (nomatch h), rfl⟩
  have rd : RDs K 0 (mn (fun _ => false) [] H) [.ref a] [.scr ns] := .cons (.scr (Same.sqL (fun b o e => mn_of e rfl (by simp)) hS)) .nil
  refine ⟨[], [], startB 4 [.scr ns], lsOff, rel_start (bx := ⟨K, 0, fun _ => false, H, none, exC⟩) en hN rd, ?_⟩
  rw [run_begin1]
  intro ow1 σ1 H1 R1
  refine ⟨ow1, [], _, lsOff, R1, ?_⟩
  rw [run_begin2 ns hl]
  intro ow2 σ2 H2 R2
  intro p hp
  obtain ⟨v1, s1, r1⟩ := R2.sh 1 _ rfl
  obtain ⟨la, m2, s2, t2⟩ := R2.own 2 _ rfl
  obtain ⟨ca, xs, rfl, g1, rx⟩ := RD.lstAt r1
  obtain ⟨ys, g2, ry⟩ := t2
  obtain ⟨c1, c2, c3⟩ := mn_some g1
  obtain rfl := RDs.unInts rx
  obtain rfl := RDs.unInts ry
  have nc : ca ≠ la := fun e => c3 (e ▸ m2)
  have pc : p ≠ ca := fun e => by rw [e, c1] at hp; cases hp
  have pl : p ≠ la := fun e => by rw [e, g2] at hp; cases hp
  refine ⟨.ref ca, s1, .ref la, s2, upd_same, kvState ca la 0, rfl, by show 3 ≤ 15; decide, ?_⟩
  refine q p ca la _ pl pc nc ?_ ?_ ?_
  · rw [upd_same]; rfl
  · rw [upd_upd, upd_ne (Ne.symm pc)]; exact c1
  · rw [upd_upd, upd_ne (Ne.symm pl)]; exact g2
/-! ### the law: the state is made, then the rest -/
/-- the reading of the rest, at whatever frame of mind -/
def sAny (K : PySem.W.Frag) (exC : String → Option Addr) (W : WX) (m : SM) : TS := fun D σ H => ∃ sa O H0 stt, sB ⟨K, sa, O, H0, stt, exC⟩ W m D σ H
theorem pss_any {X : Cx} {K : PySem.W.Frag} {exC : String → Option Addr} {W : WX} {m : SM} {sts : List Stmt} (h : ∀ sa O H0 stt, PSs X sts (sB ⟨K, sa, O, H0, stt, exC⟩ W m)) : PSs X sts (sAny K exC W m) :=
  ⟨fun pins s σ H D I ⟨sa, O, H0, stt, q⟩ => (h sa O H0 stt).run pins s σ H D I q⟩
def ls0 (ns : List Int) : LS := ⟨true, cellsOf ns, leftsOf ns, 0⟩
/-- the law's promise, where its rest keeps True at every script -/
def spLawB (K : PySem.W.Frag) : Sp := fun vs H Q _ => ∃ (a : Addr) (ns : List Int), vs = [.ref a] ∧ SqL K H a (ns.map V.int) ∧ ns.length ≤ 63 ∧ ∀ H', Q (.bl true) H'
theorem read_law {K : PySem.W.Frag} {exC : String → Option Addr} {W : WX} {N : List Str} {n : Nat} (hN : N.length = n + 2) {vs : List V} {H : Hp} {Q : VK} {E : XK} {m : SM} {E2 : Sg → XK} (h : spLawB K vs H Q E)
    (run : ∀ ns : List Int, ns.length ≤ 63 → ∃ z ls', m (none :: some (false, .st) :: List.replicate n none) (ls0 ns) = .ok (.rt z) ls' ∧ z = (.sh, .bl true)) :
    tSeq (tAsg (tCallG (spBegin K) E2 (tCons (tVar 0) tNil)) (gName 1)) (sAny K exC W m) { nx := fun _ H' => Q .non H', rt := Q } (L2.start N vs) H := by
  obtain ⟨a, ns, rfl, hS, hl, q⟩ := h
  have e0 : L2.start N [V.ref a] = some (.ref a) :: List.replicate (n + 1) none := by
    unfold L2.start
    rw [hN]
    rfl
  rw [e0]
  refine ⟨.ref a, rfl, a, ns, rfl, hS, hl, fun sa ca la H' n1 n2 n3 g1 g2 g3 => ?_⟩
  have hc : 0 < (cellsOf ns).length ∧ (cellsOf ns).length ≤ 63 := by
    unfold cellsOf
    split
    · simp
    · rename_i hne
      exact ⟨by cases ns <;> simp_all, hl⟩
  obtain ⟨z, ls', e1, rfl⟩ := run ns hl
  refine ⟨sa, fun b => decide (b = sa ∨ b = ca ∨ b = la), H', some (ca, la), [], [], none :: some (false, .st) :: List.replicate n none, ls0 ns, ?_, ?_⟩
  · have lsr : LSR ⟨K, sa, fun b => decide (b = sa ∨ b = ca ∨ b = la), H', some (ca, la), exC⟩ H' (ls0 ns) :=
      ⟨rfl, n1, n2, n3, by unfold ls0 leftsOf; simp, hc.1, hc.2, Int.le_refl _, g1, g2, g3⟩
    refine ⟨⟨fun p m => absurd m (by simp), Kept.refl, fun b hb => ?_, fun b hb => ?_, fun c l e => ?_, lsr⟩, ?_, fun i d hi => ?_, fun i d hi => ?_, fun i j d e p hi => ?_, fun h m => absurd m (by simp)⟩
    · have hb : (b == sa || b == la) = true := hb
      simp at hb
      show decide _ = true
      simp
      rcases hb with h | h
      · exact .inl h
      · exact .inr (.inr h)
    · have hb : b = sa ∨ b = ca ∨ b = la := of_decide_eq_true hb
      show H' b ≠ none
      rcases hb with rfl | rfl | rfl
      · rw [g1]; simp
      · rw [g2]; simp
      · rw [g3]; simp
    · cases e
      show decide _ = true
      simp
    · show (none :: some (false, D.st) :: List.replicate n none : Env1).length = ((some (V.ref a) :: List.replicate (n + 1) none : Sg).set 1 (some (.ref sa))).length
      simp
    · match i with
      | 0 => simp at hi
      | 1 =>
        simp at hi
        subst hi
        exact ⟨.ref sa, by simp [List.replicate_succ], .st⟩
      | i + 2 =>
        simp only [List.getElem?_cons_succ, List.getElem?_replicate] at hi
        split at hi <;> simp at hi
    · match i with
      | 0 => simp at hi
      | 1 => simp at hi
      | i + 2 =>
        simp only [List.getElem?_cons_succ, List.getElem?_replicate] at hi
        split at hi <;> simp at hi
    · match i with
      | 0 => simp at hi
      | 1 => simp at hi
      | i + 2 =>
        simp only [List.getElem?_cons_succ, List.getElem?_replicate] at hi
        split at hi <;> simp at hi
  · rw [e1]
    intro v H2 P
    obtain ⟨_, _, rv⟩ := P
    have rv : RD _ _ _ v (.bl true) := rv
    cases rv
    exact q H2
end BL
end

section
set_option Elab.async false
set_option linter.all false
set_option maxRecDepth 100000
set_option maxHeartbeats 4000000
namespace BL
open PySem PySem.Spec PyProof.Rows L2

/-! ### mirrors evaluated by simp -/
def bindR {α β : Type} (r : Res α) (f : α → LS → Res β) : Res β := match r with
  | .bad => .bad
  | .ok a s => f a s
  | .ex e s => .ex e s
@[simp] theorem bindR_ok {α β : Type} (a : α) (s : LS) (f : α → LS → Res β) : bindR (.ok a s) f = f a s := rfl
@[simp] theorem bindR_ex {α β : Type} (e : Exn) (s : LS) (f : α → LS → Res β) : bindR (.ex e s) f = .ex e s := rfl
@[simp] theorem bindR_ite {α β : Type} {p : Prop} [Decidable p] (a b : Res α) (f : α → LS → Res β) : bindR (if p then a else b) f = if p then bindR a f else bindR b f := by split <;> rfl
@[simp] theorem bind_ev {α β : Type} (m : M α) (f : α → M β) (s : LS) : M.bind m f s = bindR (m s) f := rfl
@[simp] theorem pure_ev {α : Type} (a : α) (s : LS) : M.pure a s = .ok a s := rfl
@[simp] theorem opt_ev {α : Type} (a : α) (s : LS) : M.opt (some a) s = .ok a s := rfl
@[simp] theorem opt_ite {α : Type} {p : Prop} [Decidable p] (a b : Option α) (s : LS) : M.opt (if p then a else b) s = if p then M.opt a s else M.opt b s := by split <;> rfl
@[simp] theorem ite_ev {α : Type} {p : Prop} [Decidable p] (a b : M α) (s : LS) : (if p then a else b) s = if p then a s else b s := by split <;> rfl
@[simp] theorem stE_ev {α : Type} (a : α) (s : LS) (ρ : Env1) (k : α → LS → Res Oc) : stE (.ok a s) ρ k = k a s := rfl
@[simp] theorem stE_ex {α : Type} (e : Exn) (s : LS) (ρ : Env1) (k : α → LS → Res Oc) : stE (.ex e s) ρ k = .ok (.rz ρ e) s := rfl
@[simp] theorem stE_ite {α : Type} {p : Prop} [Decidable p] (a b : Res α) (ρ : Env1) (k : α → LS → Res Oc) : stE (if p then a else b) ρ k = if p then stE a ρ k else stE b ρ k := by split <;> rfl
@[simp] theorem ok_and {p : Prop} [Decidable p] (b : Bool) (s : LS) : (if p then Res.ok b s else Res.ok false s) = Res.ok (decide p && b) s := by by_cases h : p <;> simp [h]
@[simp] theorem ok_or {p : Prop} [Decidable p] (b : Bool) (s : LS) : (if p then Res.ok true s else Res.ok b s) = Res.ok (decide p || b) s := by by_cases h : p <;> simp [h]
@[simp] theorem okV_and {p : Prop} [Decidable p] (b : Bool) (s : LS) : (if p then Res.ok (Fg.sh, D.bl b) s else Res.ok (Fg.sh, D.bl false) s) = Res.ok (Fg.sh, D.bl (decide p && b)) s := by by_cases h : p <;> simp [h]
@[simp] theorem okV_or {p : Prop} [Decidable p] (b : Bool) (s : LS) : (if p then Res.ok (Fg.sh, D.bl true) s else Res.ok (Fg.sh, D.bl b) s) = Res.ok (Fg.sh, D.bl (decide p || b)) s := by by_cases h : p <;> simp [h]

/-! names, constants, operators -/
def rdName (o : Option (Option (Bool × D))) : M (Fg × D) := match o with
  | some (some (false, d)) => M.pure (.sh, d)
  | some (some (true, d)) => M.pure (.bo, d)
  | _ => M.bad
@[simp] theorem rdName_sh (d : D) (s : LS) : rdName (some (some (false, d))) s = .ok (.sh, d) s := rfl
@[simp] theorem rdName_bo (d : D) (s : LS) : rdName (some (some (true, d))) s = .ok (.bo, d) s := rfl
@[simp] theorem eName_ev (i : Nat) (ρ : Env1) (s : LS) : eName i ρ s = rdName ρ[i]? s := rfl
@[simp] theorem eC_ev (d : D) (ρ : Env1) (s : LS) : eC d ρ s = .ok (.sh, d) s := rfl
@[simp] theorem eOp_ev (o : D → D → Option (Fg × D)) (f g : Env1 → M (Fg × D)) (ρ : Env1) (s : LS) : eOp o f g ρ s = bindR (f ρ s) fun x s1 => bindR (g ρ s1) fun y s2 => M.opt (o x.2 y.2) s2 := rfl
@[simp] theorem eUn_ev (o : D → Option (Fg × D)) (f : Env1 → M (Fg × D)) (ρ : Env1) (s : LS) : eUn o f ρ s = bindR (f ρ s) fun x s1 => M.opt (o x.2) s1 := rfl
def andV (x : D) (k : LS → Res (Fg × D)) (s : LS) : Res (Fg × D) := match x with
  | .bl b => if b = true then k s else .ok (.sh, .bl false) s
  | _ => .bad
def orV (x : D) (k : LS → Res (Fg × D)) (s : LS) : Res (Fg × D) := match x with
  | .bl b => if b = true then .ok (.sh, .bl true) s else k s
  | _ => .bad
@[simp] theorem andV_bl (b : Bool) (k : LS → Res (Fg × D)) (s : LS) : andV (.bl b) k s = if b = true then k s else .ok (.sh, .bl false) s := rfl
@[simp] theorem orV_bl (b : Bool) (k : LS → Res (Fg × D)) (s : LS) : orV (.bl b) k s = if b = true then .ok (.sh, .bl true) s else k s := rfl
@[simp] theorem eAnd_ev (f g : Env1 → M (Fg × D)) (ρ : Env1) (s : LS) : eAnd f g ρ s = bindR (f ρ s) fun x s1 => andV x.2 (g ρ) s1 := by
  unfold eAnd M.bind bindR
  cases f ρ s with
  | ok x s1 =>
    obtain ⟨x1, x2⟩ := x
    cases x2 <;> try rfl
    rename_i b; cases b <;> rfl
  | _ => rfl
@[simp] theorem eOr_ev (f g : Env1 → M (Fg × D)) (ρ : Env1) (s : LS) : eOr f g ρ s = bindR (f ρ s) fun x s1 => orV x.2 (g ρ) s1 := by
  unfold eOr M.bind bindR
  cases f ρ s with
  | ok x s1 =>
    obtain ⟨x1, x2⟩ := x
    cases x2 <;> try rfl
    rename_i b; cases b <;> rfl
  | _ => rfl
def notV (x : D) (s : LS) : Res (Fg × D) := match x with
  | .bl b => .ok (.sh, .bl (!b)) s
  | _ => .bad
@[simp] theorem notV_bl (b : Bool) (s : LS) : notV (.bl b) s = .ok (.sh, .bl (!b)) s := rfl
@[simp] theorem eNot_ev (f : Env1 → M (Fg × D)) (ρ : Env1) (s : LS) : eNot f ρ s = bindR (f ρ s) fun x s1 => notV x.2 s1 := by
  unfold eNot M.bind bindR
  cases f ρ s with
  | ok x s1 =>
    obtain ⟨x1, x2⟩ := x
    cases x2 <;> rfl
  | _ => rfl
@[simp] theorem eIf_ev (c : Env1 → M Bool) (f g : Env1 → M (Fg × D)) (ρ : Env1) (s : LS) : eIf c f g ρ s = bindR (c ρ s) fun b s1 => if b = true then f ρ s1 else g ρ s1 := by
  unfold eIf M.bind bindR
  cases c ρ s with
  | ok b s1 => cases b <;> rfl
  | _ => rfl
@[simp] theorem eChain_ev (o o' : D → D → Option (Fg × D)) (f g k : Env1 → M (Fg × D)) (ρ : Env1) (s : LS) : eChain o o' f g k ρ s =
    bindR (f ρ s) fun x s1 => bindR (g ρ s1) fun y s2 => bindR (M.opt (o x.2 y.2) s2) fun z s3 => andV z.2 (fun s4 => bindR (k ρ s4) fun w s5 => M.opt (o' y.2 w.2) s5) s3 := by
  unfold eChain M.bind bindR
  cases f ρ s with
  | ok x s1 =>
    dsimp only
    cases g ρ s1 with
    | ok y s2 =>
      dsimp only
      cases M.opt (o x.2 y.2) s2 with
      | ok z s3 =>
        obtain ⟨z1, z2⟩ := z
        cases z2 <;> try rfl
        rename_i b; cases b <;> rfl
      | _ => rfl
    | _ => rfl
  | _ => rfl
def testV (x : D) (s : LS) : Res Bool := match x with
  | .bl b => .ok b s
  | _ => .bad
@[simp] theorem testV_bl (b : Bool) (s : LS) : testV (.bl b) s = .ok b s := rfl
@[simp] theorem tOf_ev (f : Env1 → M (Fg × D)) (ρ : Env1) (s : LS) : tOf f ρ s = bindR (f ρ s) fun x s1 => testV x.2 s1 := by
  unfold tOf M.bind bindR
  cases f ρ s with
  | ok x s1 =>
    obtain ⟨x1, x2⟩ := x
    cases x2 <;> rfl
  | _ => rfl
@[simp] theorem bNot_ev (c : Env1 → M Bool) (ρ : Env1) (s : LS) : bNot c ρ s = bindR (c ρ s) fun b s1 => .ok (!b) s1 := rfl
@[simp] theorem bAnd_ev (c d : Env1 → M Bool) (ρ : Env1) (s : LS) : bAnd c d ρ s = bindR (c ρ s) fun b s1 => if b = true then d ρ s1 else .ok false s1 := by
  unfold bAnd M.bind bindR
  cases c ρ s with
  | ok b s1 => cases b <;> rfl
  | _ => rfl
@[simp] theorem bOr_ev (c d : Env1 → M Bool) (ρ : Env1) (s : LS) : bOr c d ρ s = bindR (c ρ s) fun b s1 => if b = true then .ok true s1 else d ρ s1 := by
  unfold bOr M.bind bindR
  cases c ρ s with
  | ok b s1 => cases b <;> rfl
  | _ => rfl
@[simp] theorem bYes_ev (ρ : Env1) (s : LS) : bYes ρ s = .ok true s := rfl

/-! arguments, displays, calls -/
@[simp] theorem aNil_ev (ρ : Env1) (s : LS) : aNil ρ s = .ok [] s := rfl
@[simp] theorem aCons_ev (f : Env1 → M (Fg × D)) (t : Env1 → M (List D)) (ρ : Env1) (s : LS) : aCons f t ρ s = bindR (f ρ s) fun x s1 => if x.1 = .bo then .bad else bindR (t ρ s1) fun xs s2 => .ok (x.2 :: xs) s2 := by
  unfold aCons M.bind bindR
  cases f ρ s with
  | ok x s1 => dsimp only; split <;> rfl
  | _ => rfl
@[simp] theorem rCons_ev (f : Env1 → M (Fg × D)) (t : Env1 → M (List D)) (ρ : Env1) (s : LS) : rCons f t ρ s = bindR (f ρ s) fun x s1 => bindR (t ρ s1) fun xs s2 => .ok (x.2 :: xs) s2 := rfl
@[simp] theorem qNil_ev (ρ : Env1) (s : LS) : qNil ρ s = .ok (false, []) s := rfl
@[simp] theorem qCons_ev (f : Env1 → M (Fg × D)) (t : Env1 → M (Bool × List D)) (ρ : Env1) (s : LS) : qCons f t ρ s = bindR (f ρ s) fun x s1 => bindR (t ρ s1) fun xs s2 => .ok (decide (x.1 = .bo) || xs.1, x.2 :: xs.2) s2 := rfl
@[simp] theorem eCB_ev (o : List D → Option (Fg × D)) (t : Env1 → M (List D)) (ρ : Env1) (s : LS) : eCB o t ρ s = bindR (t ρ s) fun xs s1 => M.opt (o xs) s1 := rfl
@[simp] theorem eTup_ev (t : Env1 → M (List D)) (ρ : Env1) (s : LS) : eTup t ρ s = bindR (t ρ s) fun xs s1 => if xs.length ≤ sizeLine then .ok (.sh, .tup xs) s1 else .bad := by
  unfold eTup M.bind bindR
  cases t ρ s with
  | ok x s1 => dsimp only; split <;> rfl
  | _ => rfl
@[simp] theorem eLst_ev (t : Env1 → M (List D)) (ρ : Env1) (s : LS) : eLst t ρ s = bindR (t ρ s) fun xs s1 => if xs.length ≤ sizeLine then .ok (.fr, .lst xs) s1 else .bad := by
  unfold eLst M.bind bindR
  cases t ρ s with
  | ok x s1 => dsimp only; split <;> rfl
  | _ => rfl
@[simp] theorem eDk0_ev (ρ : Env1) (s : LS) : eDk0 ρ s = .ok (.fr, .dk []) s := rfl
/-- a call's end -/
def callR (b : Bool) (r : Res (Fg × D)) : Res (Fg × D) := match r with
  | .bad => .bad
  | .ok z s => if b = false ∨ (z.1 = .sh ∧ flatD z.2 = true) then .ok z s else .bad
  | .ex e s => if b = true then .bad else .ex e s
@[simp] theorem callR_ok (b : Bool) (z : Fg × D) (s : LS) : callR b (.ok z s) = if b = false ∨ (z.1 = .sh ∧ flatD z.2 = true) then .ok z s else .bad := rfl
@[simp] theorem callR_ex (e : Exn) (s : LS) : callR false (.ex e s) = .ex e s := rfl
@[simp] theorem callR_f (z : Fg × D) (s : LS) : callR false (.ok z s) = .ok z s := by simp
@[simp] theorem callR_ite {p : Prop} [Decidable p] (b : Bool) (x y : Res (Fg × D)) : callR b (if p then x else y) = if p then callR b x else callR b y := by split <;> rfl
@[simp] theorem eCall_ev (n : Nat) (mir : Mir) (t : Env1 → M (Bool × List D)) (ρ : Env1) (s : LS) : eCall n mir t ρ s = bindR (t ρ s) fun ds s1 => if ds.2.length = n then callR ds.1 (mir ds.2 s1) else .bad := by
  unfold eCall M.bind bindR
  cases t ρ s with
  | ok ds s1 =>
    dsimp only
    split
    · cases hb : ds.1 with
      | false =>
        simp only [Bool.false_eq_true, if_false]
        cases mir ds.2 s1 with
        | ok z s2 => simp [callR, M.pure]
        | _ => rfl
      | true =>
        simp only [if_true, noex]
        cases mir ds.2 s1 with
        | ok z s2 =>
          simp only [callR]
          split <;> rfl
        | _ => rfl
    · rfl
  | _ => rfl

/-! statements -/
def seqR (r : Res Oc) (n : SM) : Res Oc := match r with
  | .ok (.nx ρ) s => n ρ s
  | r => r
@[simp] theorem seqR_nx (ρ : Env1) (s : LS) (n : SM) : seqR (.ok (.nx ρ) s) n = n ρ s := rfl
@[simp] theorem seqR_rt (z : Fg × D) (s : LS) (n : SM) : seqR (.ok (.rt z) s) n = .ok (.rt z) s := rfl
@[simp] theorem seqR_bk (ρ : Env1) (s : LS) (n : SM) : seqR (.ok (.bk ρ) s) n = .ok (.bk ρ) s := rfl
@[simp] theorem seqR_ct (ρ : Env1) (s : LS) (n : SM) : seqR (.ok (.ct ρ) s) n = .ok (.ct ρ) s := rfl
@[simp] theorem seqR_rz (ρ : Env1) (e : Exn) (s : LS) (n : SM) : seqR (.ok (.rz ρ e) s) n = .ok (.rz ρ e) s := rfl
@[simp] theorem seqR_ite {p : Prop} [Decidable p] (a b : Res Oc) (n : SM) : seqR (if p then a else b) n = if p then seqR a n else seqR b n := by split <;> rfl
@[simp] theorem sSeq_ev (m n : SM) (ρ : Env1) (s : LS) : sSeq m n ρ s = seqR (m ρ s) n := rfl
@[simp] theorem sNext_ev (ρ : Env1) (s : LS) : sNext ρ s = .ok (.nx ρ) s := rfl
@[simp] theorem sBreak_ev (ρ : Env1) (s : LS) : sBreak ρ s = .ok (.bk ρ) s := rfl
@[simp] theorem sCont_ev (ρ : Env1) (s : LS) : sCont ρ s = .ok (.ct ρ) s := rfl
@[simp] theorem sRet_ev (f : Env1 → M (Fg × D)) (ρ : Env1) (s : LS) : sRet f ρ s = stE (f ρ s) ρ fun z s1 => if z.1 = .bo then .bad else .ok (.rt z) s1 := rfl
def retV (o : Option (Option (Bool × D))) (s : LS) : Res Oc := match o with
  | some (some (true, d)) => .ok (.rt (.fr, d)) s
  | some (some (false, d)) => .ok (.rt (.sh, d)) s
  | _ => .bad
@[simp] theorem retV_fr (d : D) (s : LS) : retV (some (some (true, d))) s = .ok (.rt (.fr, d)) s := rfl
@[simp] theorem retV_sh (d : D) (s : LS) : retV (some (some (false, d))) s = .ok (.rt (.sh, d)) s := rfl
@[simp] theorem sRetV_ev (i : Nat) (ρ : Env1) (s : LS) : sRetV i ρ s = retV ρ[i]? s := rfl
@[simp] theorem sRetN_ev (ρ : Env1) (s : LS) : sRetN ρ s = .ok (.rt (.sh, .non)) s := rfl
@[simp] theorem sExpr_ev (f : Env1 → M (Fg × D)) (ρ : Env1) (s : LS) : sExpr f ρ s = stE (f ρ s) ρ fun _ s1 => .ok (.nx ρ) s1 := rfl
@[simp] theorem sIf_ev (c : Env1 → M Bool) (m n : SM) (ρ : Env1) (s : LS) : sIf c m n ρ s = stE (c ρ s) ρ fun b s1 => if b = true then m ρ s1 else n ρ s1 := rfl
@[simp] theorem sSet_ev (i : Nat) (f : Env1 → M (Fg × D)) (ρ : Env1) (s : LS) : sSet i f ρ s = stE (f ρ s) ρ fun z s1 => if z.1 = .bo then .bad else .ok (.nx (ρ.set i (some (decide (z.1 = .fr), z.2)))) s1 := rfl
def unO (o : Option (Option (Bool × D))) (ρ : Env1) (i : Nat) : Env1 := match o with
  | some (some (true, d)) => ρ.set i (some (false, d))
  | _ => ρ
@[simp] theorem unO_t (d : D) (ρ : Env1) (i : Nat) : unO (some (some (true, d))) ρ i = ρ.set i (some (false, d)) := rfl
@[simp] theorem unO_f (d : D) (ρ : Env1) (i : Nat) : unO (some (some (false, d))) ρ i = ρ := rfl
@[simp] theorem unO_n (ρ : Env1) (i : Nat) : unO (some none) ρ i = ρ := rfl
@[simp] theorem unEnv_ev (i : Nat) (ρ : Env1) : unEnv i ρ = unO ρ[i]? ρ i := rfl
@[simp] theorem sUn_ev (i : Nat) (m : SM) (ρ : Env1) (s : LS) : sUn i m ρ s = m (unEnv i ρ) s := rfl
@[simp] theorem setAll_nil (ρ : Env1) (ds : List D) : setAll ρ [] ds = ρ := by unfold setAll; rfl
@[simp] theorem setAll_cons (ρ : Env1) (i : Nat) (is : List Nat) (d : D) (ds : List D) : setAll ρ (i :: is) (d :: ds) = setAll (ρ.set i (some (false, d))) is ds := rfl
def tupR (is : List Nat) (ρ : Env1) (x : D) (s : LS) : Res Oc := match x with
  | .tup ds => if ds.length = is.length then .ok (.nx (setAll ρ is ds)) s else .bad
  | _ => .bad
@[simp] theorem tupR_tup (is : List Nat) (ρ : Env1) (ds : List D) (s : LS) : tupR is ρ (.tup ds) s = if ds.length = is.length then .ok (.nx (setAll ρ is ds)) s else .bad := rfl
@[simp] theorem sTup_ev (is : List Nat) (f : Env1 → M (Fg × D)) (ρ : Env1) (s : LS) : sTup is f ρ s = stE (f ρ s) ρ fun z s1 => tupR is ρ z.2 s1 := rfl
@[simp] theorem sPar_ev (i j : Nat) (f g : Env1 → M (Fg × D)) (ρ : Env1) (s : LS) : sPar i j f g ρ s = stE (f ρ s) ρ fun z s1 => if z.1 = .bo then .bad else stE (g ρ s1) ρ fun y s2 => if y.1 = .bo then .bad else
  .ok (.nx ((ρ.set i (some (decide (z.1 = .fr), z.2))).set j (some (decide (y.1 = .fr), y.2)))) s2 := rfl
def storeR (ρ : Env1) (j : Nat) (o : Option D) (s : LS) : Res Oc := match o with
  | some d' => .ok (.nx (ρ.set j (some (true, d')))) s
  | none => .bad
@[simp] theorem storeR_some (ρ : Env1) (j : Nat) (d : D) (s : LS) : storeR ρ j (some d) s = .ok (.nx (ρ.set j (some (true, d)))) s := rfl
def sto1 (o : Option (Option (Bool × D))) (ρ : Env1) (j : Nat) (kf : Env1 → M (Fg × D)) (v : D) (s : LS) : Res Oc := match o with
  | some (some (true, d)) => stE (kf ρ s) ρ fun k s2 => storeR ρ j (storeD d k.2 v) s2
  | _ => .bad
@[simp] theorem sto1_t (d : D) (ρ : Env1) (j : Nat) (kf : Env1 → M (Fg × D)) (v : D) (s : LS) : sto1 (some (some (true, d))) ρ j kf v s = stE (kf ρ s) ρ fun k s2 => storeR ρ j (storeD d k.2 v) s2 := rfl
@[simp] theorem sStore_ev (j : Nat) (kf vf : Env1 → M (Fg × D)) (ρ : Env1) (s : LS) : sStore j kf vf ρ s = stE (vf ρ s) ρ fun v s1 => if v.1 = .bo then .bad else sto1 ρ[j]? ρ j kf v.2 s1 := rfl
def methR (ρ : Env1) (j : Nat) (i : Option Nat) (o : Option (D × D)) (s : LS) : Res Oc := match o with
  | some (d', z) => .ok (.nx (match i with
      | none => ρ.set j (some (true, d'))
      | some i => (ρ.set j (some (true, d'))).set i (some (false, z)))) s
  | none => .bad
@[simp] theorem methR_none (ρ : Env1) (j : Nat) (d z : D) (s : LS) : methR ρ j none (some (d, z)) s = .ok (.nx (ρ.set j (some (true, d)))) s := rfl
@[simp] theorem methR_some (ρ : Env1) (j i : Nat) (d z : D) (s : LS) : methR ρ j (some i) (some (d, z)) s = .ok (.nx ((ρ.set j (some (true, d))).set i (some (false, z)))) s := rfl
def meth1 (x : Option (Option (Bool × D))) (ρ : Env1) (j : Nat) (o : D → List D → Option (D × D)) (t : Env1 → M (List D)) (i : Option Nat) (s : LS) : Res Oc := match x with
  | some (some (true, .lst xs)) => stE (t ρ s) ρ fun ds s1 => methR ρ j i (o (.lst xs) ds) s1
  | _ => .bad
@[simp] theorem meth1_t (xs : List D) (ρ : Env1) (j : Nat) (o : D → List D → Option (D × D)) (t : Env1 → M (List D)) (i : Option Nat) (s : LS) : meth1 (some (some (true, .lst xs))) ρ j o t i s = stE (t ρ s) ρ fun ds s1 => methR ρ j i (o (.lst xs) ds) s1 := rfl
@[simp] theorem sMeth_ev (j : Nat) (o : D → List D → Option (D × D)) (t : Env1 → M (List D)) (i : Option Nat) (ρ : Env1) (s : LS) : sMeth j o t i ρ s = meth1 ρ[j]? ρ j o t i s := rfl
/-! loops -/
@[simp] theorem sFor_ev (f : Env1 → M (List D)) (bt : Tg) (m : SM) (ρ : Env1) (s : LS) : sFor f bt m ρ s = stE (f ρ s) ρ fun ds s1 => forL bt m ds ρ s1 := rfl
@[simp] theorem forL_nil (bt : Tg) (m : SM) (ρ : Env1) (s : LS) : forL bt m [] ρ s = .ok (.nx ρ) s := rfl
def loopR (r : Res Oc) (k : SM) : Res Oc := match r with
  | .ok (.nx ρ) s => k ρ s
  | .ok (.ct ρ) s => k ρ s
  | .ok (.bk ρ) s => .ok (.nx ρ) s
  | r => r
@[simp] theorem loopR_nx (ρ : Env1) (s : LS) (n : SM) : loopR (.ok (.nx ρ) s) n = n ρ s := rfl
@[simp] theorem loopR_rt (z : Fg × D) (s : LS) (n : SM) : loopR (.ok (.rt z) s) n = .ok (.rt z) s := rfl
@[simp] theorem loopR_bk (ρ : Env1) (s : LS) (n : SM) : loopR (.ok (.bk ρ) s) n = .ok (.nx ρ) s := rfl
@[simp] theorem loopR_ct (ρ : Env1) (s : LS) (n : SM) : loopR (.ok (.ct ρ) s) n = n ρ s := rfl
@[simp] theorem loopR_rz (ρ : Env1) (e : Exn) (s : LS) (n : SM) : loopR (.ok (.rz ρ e) s) n = .ok (.rz ρ e) s := rfl
@[simp] theorem loopR_ite {p : Prop} [Decidable p] (a b : Res Oc) (n : SM) : loopR (if p then a else b) n = if p then loopR a n else loopR b n := by split <;> rfl
theorem forL_cons (bt : Tg) (m : SM) (d : D) (ds : List D) (ρ : Env1) (s : LS) : forL bt m (d :: ds) ρ s = match bt d ρ with
    | none => .bad
    | some ρ1 => loopR (m ρ1 s) (forL bt m ds) := by
  conv => lhs; unfold forL
  cases bt d ρ with
  | none => rfl
  | some ρ1 =>
    show (match m ρ1 s with
      | .ok (.nx ρ') ls2 => forL bt m ds ρ' ls2
      | .ok (.ct ρ') ls2 => forL bt m ds ρ' ls2
      | .ok (.bk ρ') ls2 => .ok (.nx ρ') ls2
      | r => r) = loopR (m ρ1 s) (forL bt m ds)
    cases m ρ1 s with
    | ok o l => cases o <;> rfl
    | _ => rfl
@[simp] theorem tgN_ev (i : Nat) (d : D) (ρ : Env1) : tgN i d ρ = some (ρ.set i (some (false, d))) := rfl
@[simp] theorem tgT_ev (is : List Nat) (ds : List D) (ρ : Env1) : tgT is (.tup ds) ρ = if ds.length = is.length then some (setAll ρ is ds) else none := rfl
theorem sWhile_succ (c : Env1 → M Bool) (b : SM) (n : Nat) (ρ : Env1) (s : LS) : sWhile c b (n + 1) ρ s = stE (c ρ s) ρ fun t s1 => if t = true then loopR (b ρ s1) (sWhile c b n) else .ok (.nx ρ) s1 := by
  conv => lhs; unfold sWhile
  congr 1
  all_goals (funext t s1; split)
  all_goals first | rfl | (cases b ρ s1 with
    | ok o l => cases o <;> rfl
    | _ => rfl)
@[simp] theorem iSeq_ev (f : Env1 → M (Fg × D)) (ρ : Env1) (s : LS) : iSeq f ρ s = bindR (f ρ s) fun z s1 => if z.1 = .bo then .bad else M.opt (seqO z.2) s1 := by
  unfold iSeq M.bind bindR
  cases f ρ s with
  | ok x s1 => dsimp only; split <;> rfl
  | _ => rfl
@[simp] theorem iRev_ev (f : Env1 → M (Fg × D)) (ρ : Env1) (s : LS) : iRev f ρ s = bindR (f ρ s) fun z s1 => if z.1 = .bo then .bad else M.opt ((seqO z.2).map List.reverse) s1 := by
  unfold iRev M.bind bindR
  cases f ρ s with
  | ok x s1 => dsimp only; split <;> rfl
  | _ => rfl
@[simp] theorem iArg_ev (o : List D → Option (List D)) (t : Env1 → M (List D)) (ρ : Env1) (s : LS) : iArg o t ρ s = bindR (t ρ s) fun xs s1 => M.opt (o xs) s1 := rfl
@[simp] theorem eLc_ev (fi : Env1 → M (List D)) (bt : Tg) (c : Env1 → M Bool) (f : Env1 → M (Fg × D)) (own : List Nat) (ρ : Env1) (s : LS) : eLc fi bt c f own ρ s = bindR (fi ρ s) fun ds s1 => bindR (lcL bt c f (wipe1 ρ own) ds [] s1) fun acc s2 => .ok (.fr, .lst acc) s2 := rfl
@[simp] theorem lcL_nil (bt : Tg) (c : Env1 → M Bool) (f : Env1 → M (Fg × D)) (ρ : Env1) (acc : List D) (s : LS) : lcL bt c f ρ [] acc s = .ok acc s := rfl
def noexR {α : Type} (r : Res α) : Res α := match r with
  | .ex _ _ => .bad
  | r => r
@[simp] theorem noexR_ok {α : Type} (a : α) (s : LS) : noexR (.ok a s) = .ok a s := rfl
@[simp] theorem noexR_ite {α : Type} {p : Prop} [Decidable p] (a b : Res α) : noexR (if p then a else b) = if p then noexR a else noexR b := by split <;> rfl
@[simp] theorem noex_ev {α : Type} (m : M α) (s : LS) : noex m s = noexR (m s) := by unfold noex noexR; cases m s <;> rfl
theorem lcL_cons (bt : Tg) (c : Env1 → M Bool) (f : Env1 → M (Fg × D)) (ρ : Env1) (d : D) (ds acc : List D) (s : LS) : lcL bt c f ρ (d :: ds) acc s = match bt d ρ with
    | none => .bad
    | some ρ1 => bindR (noexR (c ρ1 s)) fun b s1 => if b = true then bindR (noexR (f ρ1 s1)) fun z s2 => if z.1 = .bo then .bad else if acc.length < sizeLine then lcL bt c f ρ ds (acc ++ [z.2]) s2 else .bad else lcL bt c f ρ ds acc s1 := by
  conv => lhs; unfold lcL
  cases bt d ρ with
  | none => rfl
  | some ρ1 =>
    simp only [bind_ev, noex_ev]
    congr 1
    funext b s1
    split
    · simp only [bind_ev, noex_ev]
      congr 1
      funext z s2
      split
      · rfl
      · split <;> rfl
    · rfl
@[simp] theorem wipe1_nil (ρ : Env1) : wipe1 ρ [] = ρ := rfl
@[simp] theorem wipe1_cons (ρ : Env1) (v : Nat) (vs : List Nat) : wipe1 ρ (v :: vs) = (wipe1 ρ vs).set v none := rfl
/-! whole defs -/
@[simp] theorem fin_nx (ρ : Env1) (s : LS) : fin (.ok (.nx ρ) s) = .ok (.sh, .non) s := rfl
@[simp] theorem fin_rt (z : Fg × D) (s : LS) : fin (.ok (.rt z) s) = .ok z s := rfl
@[simp] theorem fin_rz (ρ : Env1) (e : Exn) (s : LS) : fin (.ok (.rz ρ e) s) = .ex e s := rfl
@[simp] theorem fin_ite {p : Prop} [Decidable p] (a b : Res Oc) : fin (if p then a else b) = if p then fin a else fin b := by split <;> rfl
theorem mirOf_ev (n : Nat) (m : SM) (ds : List D) (s : LS) : mirOf n m ds s = fin (m (startB n ds) s) := rfl
@[simp] theorem startB_ev (n : Nat) (ds : List D) : startB n ds = ds.map (fun d => some (false, d)) ++ List.replicate (n - ds.length) none := rfl

/-! operators by values -/
@[simp] theorem addD_int (a b : Int) : addD (.int a) (.int b) = some (.sh, .int (a + b)) := rfl
@[simp] theorem addD_lst (a b : List D) : addD (.lst a) (.lst b) = if a.length + b.length ≤ sizeLine then some (.fr, .lst (a ++ b)) else none := rfl
@[simp] theorem addD_tup (a b : List D) : addD (.tup a) (.tup b) = if a.length + b.length ≤ sizeLine then some (.sh, .tup (a ++ b)) else none := rfl
@[simp] theorem subD_int (a b : Int) : subD (.int a) (.int b) = some (.sh, .int (a - b)) := rfl
@[simp] theorem mulD_int (a b : Int) : mulD (.int a) (.int b) = if a.natAbs.log2 + b.natAbs.log2 < 1000000 then some (.sh, .int (a * b)) else none := rfl
@[simp] theorem fdivD_int (a b : Int) : fdivD (.int a) (.int b) = if b ≠ 0 ∧ b.natAbs.log2 < 9000 then some (.sh, .int (a.fdiv b)) else none := rfl
@[simp] theorem modD_int (a b : Int) : modD (.int a) (.int b) = if b ≠ 0 then some (.sh, .int (a.fmod b)) else none := rfl
@[simp] theorem powD_int (a b : Int) : powD (.int a) (.int b) = if 0 ≤ b ∧ b ≤ 1000000 ∧ a.natAbs < 2 ^ 64 then some (.sh, .int (a ^ b.toNat)) else none := rfl
@[simp] theorem negD_int (a : Int) : negD (.int a) = some (.sh, .int (-a)) := rfl
@[simp] theorem cmpD_int (g : Int → Int → Bool) (a b : Int) : cmpD g (.int a) (.int b) = some (.sh, .bl (g a b)) := rfl
@[simp] theorem eqD_int (a b : Int) : eqD (.int a) (.int b) = some (.sh, .bl (decide (a = b))) := by
  unfold eqD eqB
  simp [toPy, SeqAt.shaped, PyData.canLay0, PyData.depth, PyData.eqv]
  first | done | rfl
@[simp] theorem neD_int (a b : Int) : neD (.int a) (.int b) = some (.sh, .bl (!decide (a = b))) := by
  unfold neD eqB
  simp [toPy, SeqAt.shaped, PyData.canLay0, PyData.depth, PyData.eqv]
  first | done | rfl
@[simp] theorem isD_non (a : D) : isD a .non = (isN a).map fun k => (.sh, .bl k) := by cases a <;> rfl
@[simp] theorem notD_non (a : D) : notD a .non = (isN a).map fun k => (.sh, .bl (!k)) := by cases a <;> rfl
@[simp] theorem isN_non : isN .non = some true := rfl
@[simp] theorem isN_tup (xs : List D) : isN (.tup xs) = some false := rfl
@[simp] theorem isN_lst (xs : List D) : isN (.lst xs) = some false := rfl
@[simp] theorem isN_int (i : Int) : isN (.int i) = some false := rfl
@[simp] theorem keyD_int (i : Int) : keyD (.int i) = some (.inl i) := rfl
@[simp] theorem inO_dk (i : Int) (kvs : List (Key × D)) : inO (.int i) (.dk kvs) = some (.sh, .bl (getK kvs (.inl i)).isSome) := rfl
@[simp] theorem notinO_dk (i : Int) (kvs : List (Key × D)) : notinO (.int i) (.dk kvs) = some (.sh, .bl (!(getK kvs (.inl i)).isSome)) := rfl
@[simp] theorem ixD_lst (xs : List D) (i : Int) : ixD (.lst xs) (.int i) = (atI xs i).map fun d => (.sh, d) := rfl
@[simp] theorem ixD_tup (xs : List D) (i : Int) : ixD (.tup xs) (.int i) = (atI xs i).map fun d => (.sh, d) := rfl
@[simp] theorem ixD_dk (kvs : List (Key × D)) (i : Int) : ixD (.dk kvs) (.int i) = (getK kvs (.inl i)).map fun d => (.sh, d) := rfl
@[simp] theorem revD_lst (xs : List D) : revD (.lst xs) = some (.fr, .lst xs.reverse) := rfl
@[simp] theorem revD_tup (xs : List D) : revD (.tup xs) = some (.sh, .tup xs.reverse) := rfl
@[simp] theorem seqO_lst (xs : List D) : seqO (.lst xs) = some xs := rfl
@[simp] theorem seqO_tup (xs : List D) : seqO (.tup xs) = some xs := rfl
@[simp] theorem lenD_lst (xs : List D) : lenD [.lst xs] = some (.sh, .int xs.length) := rfl
@[simp] theorem lenD_tup (xs : List D) : lenD [.tup xs] = some (.sh, .int xs.length) := rfl
@[simp] theorem lenD_dk (xs : List (Key × D)) : lenD [.dk xs] = some (.sh, .int xs.length) := rfl
@[simp] theorem absD_int (i : Int) : absD [.int i] = some (.sh, .int i.natAbs) := by
  show some (Fg.sh, D.int (if i < 0 then -i else i)) = _
  congr 3
  split <;> omega
@[simp] theorem max2D_int (i j : Int) : max2D [.int i, .int j] = some (.sh, .int (max i j)) := by
  show some (Fg.sh, D.int (if j > i then j else i)) = _
  congr 3
  split <;> omega
@[simp] theorem gcdD_int (i j : Int) : gcdD [.int i, .int j] = some (.sh, .int ((Nat.gcd i.natAbs j.natAbs : Nat) : Int)) := rfl
@[simp] theorem intD_int (i : Int) : intD [.int i] = some (.sh, .int i) := rfl
@[simp] theorem listD_lst (xs : List D) : listD [.lst xs] = some (.fr, .lst xs) := rfl
@[simp] theorem listD_tup (xs : List D) : listD [.tup xs] = some (.fr, .lst xs) := rfl
@[simp] theorem listD_dk (kvs : List (Key × D)) : listD [.dk kvs] = some (.fr, .lst (kvs.map fun kv => kD kv.1)) := rfl
@[simp] theorem tupleD_lst (xs : List D) : tupleD [.lst xs] = some (.sh, .tup xs) := rfl
@[simp] theorem tupleD_tup (xs : List D) : tupleD [.tup xs] = some (.sh, .tup xs) := rfl
@[simp] theorem isiD_ty (d : D) (n : String) : isiD [d, .op (.ty n)] = (tyN d).bind fun t => (isiB t n).map fun k => (.sh, .bl k) := rfl
@[simp] theorem tyN_int (i : Int) : tyN (.int i) = some "int" := rfl
@[simp] theorem tyN_bl (b : Bool) : tyN (.bl b) = some "bool" := rfl
@[simp] theorem tyN_tup (xs : List D) : tyN (.tup xs) = some "tuple" := rfl
@[simp] theorem tyN_lst (xs : List D) : tyN (.lst xs) = some "list" := rfl
@[simp] theorem tyN_non : tyN .non = some "NoneType" := rfl
@[simp] theorem isiB_1 : isiB "int" "int" = some true := rfl
@[simp] theorem isiB_2 : isiB "int" "bool" = some false := rfl
@[simp] theorem isiB_3 : isiB "int" "tuple" = some false := rfl
@[simp] theorem isiB_4 : isiB "tuple" "tuple" = some true := rfl
@[simp] theorem isiB_5 : isiB "tuple" "int" = some false := rfl
@[simp] theorem isiB_6 : isiB "bool" "bool" = some true := rfl
@[simp] theorem isiB_7 : isiB "bool" "int" = some true := rfl
@[simp] theorem isiB_8 : isiB "NoneType" "tuple" = some false := rfl
@[simp] theorem isiB_9 : isiB "list" "tuple" = some false := rfl
@[simp] theorem appD_lst (xs : List D) (d : D) : appD (.lst xs) [d] = if xs.length < sizeLine then some (.lst (xs ++ [d]), .non) else none := rfl
@[simp] theorem reverseD_lst (xs : List D) : reverseD (.lst xs) [] = some (.lst xs.reverse, .non) := rfl
@[simp] theorem storeD_dk (kvs : List (Key × D)) (i : Int) (v : D) : storeD (.dk kvs) (.int i) v = if kvs.length < sizeLine then some (.dk (putD kvs (.inl i) v)) else none := rfl
@[simp] theorem enumO_tup (xs : List D) : enumO [.tup xs] = some (enumD 0 xs) := rfl
@[simp] theorem enumO_lst (xs : List D) : enumO [.lst xs] = some (enumD 0 xs) := rfl
theorem slen2 (n : Nat) (h : n ≤ 16777216) : n ≤ sizeLine := by rw [sizeLine_eq]; exact h
@[simp] theorem neD0_dk (kvs : List (Key × D)) : neD0 (.dk kvs) (.dk []) = some (.sh, .bl (!kvs.isEmpty)) := rfl
end BL
end

section
open PySem PySem.W PyProof.Rows
set_option Elab.async false
set_option linter.all false
set_option maxRecDepth 100000
set_option maxHeartbeats 0
open_top head for PySem.Challenge.rw_stepswithin_k82_whole_least_words_to_goa
namespace BL
open PySem PySem.Spec PyProof.Rows L2
def topS (i : Nat) : Stmt := PySem.Challenge.pw_stepswithin_k82_whole_least_words_to_goa.main.body.getD i (.Pass ⟨0, 0, 0, 0⟩)
end BL
theorem BL.gb_gcd (w : World) : PySem.W.nsIn (head.heap_39 w.params) mainGlobals "gcd" = some (some (.builtin "math.gcd")) := by k_is
theorem BL.gi_MOST_PART (w : World) : ∃ tk, PySem.W.nsIn (head.heap_39 w.params) mainGlobals "MOST_PART" = some (some (.int 1000000000000000000000000000000000000000000000000000000000000 tk)) := by
  refine' BL.gi_mk ?a
  case a => k_is
theorem BL.gi_MOST_DEGREE (w : World) : ∃ tk, PySem.W.nsIn (head.heap_39 w.params) mainGlobals "MOST_DEGREE" = some (some (.int 64 tk)) := by
  refine' BL.gi_mk ?a
  case a => k_is
theorem BL.gi_MOST_ROW (w : World) : ∃ tk, PySem.W.nsIn (head.heap_39 w.params) mainGlobals "MOST_ROW" = some (some (.int 8 tk)) := by
  refine' BL.gi_mk ?a
  case a => k_is
theorem BL.df_is_from (w : World) : BL.DefF (head.heap_39 w.params) "is_from" (BL.topS 11) := by
  refine' BL.defF_mk ?a ?l ?c ?k
  (case a => k_is); (case l => k_is); (case c => k_is); (case k => k_is)
theorem BL.df_is_number (w : World) : BL.DefF (head.heap_39 w.params) "is_number" (BL.topS 12) := by
  refine' BL.defF_mk ?a ?l ?c ?k
  (case a => k_is); (case l => k_is); (case c => k_is); (case k => k_is)
theorem BL.df_is_step (w : World) : BL.DefF (head.heap_39 w.params) "is_step" (BL.topS 13) := by
  refine' BL.defF_mk ?a ?l ?c ?k
  (case a => k_is); (case l => k_is); (case c => k_is); (case k => k_is)
theorem BL.df_need_number (w : World) : BL.DefF (head.heap_39 w.params) "need_number" (BL.topS 14) := by
  refine' BL.defF_mk ?a ?l ?c ?k
  (case a => k_is); (case l => k_is); (case c => k_is); (case k => k_is)
theorem BL.df_need_row (w : World) : BL.DefF (head.heap_39 w.params) "need_row" (BL.topS 15) := by
  refine' BL.defF_mk ?a ?l ?c ?k
  (case a => k_is); (case l => k_is); (case c => k_is); (case k => k_is)
theorem BL.df_reduced (w : World) : BL.DefF (head.heap_39 w.params) "reduced" (BL.topS 16) := by
  refine' BL.defF_mk ?a ?l ?c ?k
  (case a => k_is); (case l => k_is); (case c => k_is); (case k => k_is)
theorem BL.df_as_poly (w : World) : BL.DefF (head.heap_39 w.params) "as_poly" (BL.topS 17) := by
  refine' BL.defF_mk ?a ?l ?c ?k
  (case a => k_is); (case l => k_is); (case c => k_is); (case k => k_is)
theorem BL.df_holds_bound (w : World) : BL.DefF (head.heap_39 w.params) "holds_bound" (BL.topS 19) := by
  refine' BL.defF_mk ?a ?l ?c ?k
  (case a => k_is); (case l => k_is); (case c => k_is); (case k => k_is)
theorem BL.df_least_bound (w : World) : BL.DefF (head.heap_39 w.params) "least_bound" (BL.topS 20) := by
  refine' BL.defF_mk ?a ?l ?c ?k
  (case a => k_is); (case l => k_is); (case c => k_is); (case k => k_is)
theorem BL.gi_MOST_LOOKED_AT (w : World) : ∃ tk, PySem.W.nsIn (head.heap_39 w.params) mainGlobals "MOST_LOOKED_AT" = some (some (.int 2000 tk)) := by
  refine' BL.gi_mk ?a
  case a => k_is
theorem BL.df_need_whole (w : World) : BL.DefF (head.heap_39 w.params) "need_whole" (BL.topS 23) := by
  refine' BL.defF_mk ?a ?l ?c ?k
  (case a => k_is); (case l => k_is); (case c => k_is); (case k => k_is)
theorem BL.df_led (w : World) : BL.DefF (head.heap_39 w.params) "led" (BL.topS 24) := by
  refine' BL.defF_mk ?a ?l ?c ?k
  (case a => k_is); (case l => k_is); (case c => k_is); (case k => k_is)
theorem BL.df_check_few (w : World) : BL.DefF (head.heap_39 w.params) "check_few" (BL.topS 25) := by
  refine' BL.defF_mk ?a ?l ?c ?k
  (case a => k_is); (case l => k_is); (case c => k_is); (case k => k_is)
theorem BL.df_is_growing (w : World) : BL.DefF (head.heap_39 w.params) "is_growing" (BL.topS 27) := by
  refine' BL.defF_mk ?a ?l ?c ?k
  (case a => k_is); (case l => k_is); (case c => k_is); (case k => k_is)
theorem BL.df_need_choices (w : World) : BL.DefF (head.heap_39 w.params) "need_choices" (BL.topS 28) := by
  refine' BL.defF_mk ?a ?l ?c ?k
  (case a => k_is); (case l => k_is); (case c => k_is); (case k => k_is)
theorem BL.df_bound_of (w : World) : BL.DefF (head.heap_39 w.params) "bound_of" (BL.topS 29) := by
  refine' BL.defF_mk ?a ?l ?c ?k
  (case a => k_is); (case l => k_is); (case c => k_is); (case k => k_is)
theorem BL.df_whole_numbers (w : World) : BL.DefF (head.heap_39 w.params) "whole_numbers" (BL.topS 30) := by
  refine' BL.defF_mk ?a ?l ?c ?k
  (case a => k_is); (case l => k_is); (case c => k_is); (case k => k_is)
theorem BL.df_asked_of (w : World) : BL.DefF (head.heap_39 w.params) "asked_of" (BL.topS 31) := by
  refine' BL.defF_mk ?a ?l ?c ?k
  (case a => k_is); (case l => k_is); (case c => k_is); (case k => k_is)
theorem BL.df_ways_from (w : World) : BL.DefF (head.heap_39 w.params) "ways_from" (BL.topS 32) := by
  refine' BL.defF_mk ?a ?l ?c ?k
  (case a => k_is); (case l => k_is); (case c => k_is); (case k => k_is)
theorem BL.df_word_to (w : World) : BL.DefF (head.heap_39 w.params) "word_to" (BL.topS 33) := by
  refine' BL.defF_mk ?a ?l ?c ?k
  (case a => k_is); (case l => k_is); (case c => k_is); (case k => k_is)
theorem BL.df_reach (w : World) : BL.DefF (head.heap_39 w.params) "reach" (BL.topS 34) := by
  refine' BL.defF_mk ?a ?l ?c ?k
  (case a => k_is); (case l => k_is); (case c => k_is); (case k => k_is)
theorem BL.df__law_mixed (w : World) : BL.DefF (head.heap_39 w.params) "_law_mixed" (BL.topS 36) := by
  refine' BL.defF_mk ?a ?l ?c ?k
  (case a => k_is); (case l => k_is); (case c => k_is); (case k => k_is)
theorem BL.df__law_begin (w : World) : BL.DefF (head.heap_39 w.params) "_law_begin" (BL.topS 37) := by
  refine' BL.defF_mk ?a ?l ?c ?k
  (case a => k_is); (case l => k_is); (case c => k_is); (case k => k_is)
theorem BL.df__law_draw (w : World) : BL.DefF (head.heap_39 w.params) "_law_draw" (BL.topS 38) := by
  refine' BL.defF_mk ?a ?l ?c ?k
  (case a => k_is); (case l => k_is); (case c => k_is); (case k => k_is)
theorem BL.df__law_of (w : World) : BL.DefF (head.heap_39 w.params) "_law_of" (BL.topS 39) := by
  refine' BL.defF_mk ?a ?l ?c ?k
  (case a => k_is); (case l => k_is); (case c => k_is); (case k => k_is)
theorem BL.df__law_divisor (w : World) : BL.DefF (head.heap_39 w.params) "_law_divisor" (BL.topS 40) := by
  refine' BL.defF_mk ?a ?l ?c ?k
  (case a => k_is); (case l => k_is); (case c => k_is); (case k => k_is)
theorem BL.df__law_frac (w : World) : BL.DefF (head.heap_39 w.params) "_law_frac" (BL.topS 41) := by
  refine' BL.defF_mk ?a ?l ?c ?k
  (case a => k_is); (case l => k_is); (case c => k_is); (case k => k_is)
theorem BL.df__law_add (w : World) : BL.DefF (head.heap_39 w.params) "_law_add" (BL.topS 42) := by
  refine' BL.defF_mk ?a ?l ?c ?k
  (case a => k_is); (case l => k_is); (case c => k_is); (case k => k_is)
theorem BL.df__law_mul (w : World) : BL.DefF (head.heap_39 w.params) "_law_mul" (BL.topS 43) := by
  refine' BL.defF_mk ?a ?l ?c ?k
  (case a => k_is); (case l => k_is); (case c => k_is); (case k => k_is)
theorem BL.df__law_power (w : World) : BL.DefF (head.heap_39 w.params) "_law_power" (BL.topS 44) := by
  refine' BL.defF_mk ?a ?l ?c ?k
  (case a => k_is); (case l => k_is); (case c => k_is); (case k => k_is)
theorem BL.df__law_less (w : World) : BL.DefF (head.heap_39 w.params) "_law_less" (BL.topS 45) := by
  refine' BL.defF_mk ?a ?l ?c ?k
  (case a => k_is); (case l => k_is); (case c => k_is); (case k => k_is)
theorem BL.df__law_like (w : World) : BL.DefF (head.heap_39 w.params) "_law_like" (BL.topS 46) := by
  refine' BL.defF_mk ?a ?l ?c ?k
  (case a => k_is); (case l => k_is); (case c => k_is); (case k => k_is)
theorem BL.df__law_size_at (w : World) : BL.DefF (head.heap_39 w.params) "_law_size_at" (BL.topS 47) := by
  refine' BL.defF_mk ?a ?l ?c ?k
  (case a => k_is); (case l => k_is); (case c => k_is); (case k => k_is)
theorem BL.df__law_choices (w : World) : BL.DefF (head.heap_39 w.params) "_law_choices" (BL.topS 48) := by
  refine' BL.defF_mk ?a ?l ?c ?k
  (case a => k_is); (case l => k_is); (case c => k_is); (case k => k_is)
theorem BL.df__law_led_to (w : World) : BL.DefF (head.heap_39 w.params) "_law_led_to" (BL.topS 49) := by
  refine' BL.defF_mk ?a ?l ?c ?k
  (case a => k_is); (case l => k_is); (case c => k_is); (case k => k_is)
theorem BL.df__law_most (w : World) : BL.DefF (head.heap_39 w.params) "_law_most" (BL.topS 50) := by
  refine' BL.defF_mk ?a ?l ?c ?k
  (case a => k_is); (case l => k_is); (case c => k_is); (case k => k_is)
theorem BL.df__law_words (w : World) : BL.DefF (head.heap_39 w.params) "_law_words" (BL.topS 51) := by
  refine' BL.defF_mk ?a ?l ?c ?k
  (case a => k_is); (case l => k_is); (case c => k_is); (case k => k_is)
theorem BL.df__law_goals (w : World) : BL.DefF (head.heap_39 w.params) "_law_goals" (BL.topS 52) := by
  refine' BL.defF_mk ?a ?l ?c ?k
  (case a => k_is); (case l => k_is); (case c => k_is); (case k => k_is)
theorem BL.df__law_pair_right (w : World) : BL.DefF (head.heap_39 w.params) "_law_pair_right" (BL.topS 53) := by
  refine' BL.defF_mk ?a ?l ?c ?k
  (case a => k_is); (case l => k_is); (case c => k_is); (case k => k_is)
theorem BL.df__law_right (w : World) : BL.DefF (head.heap_39 w.params) "_law_right" (BL.topS 54) := by
  refine' BL.defF_mk ?a ?l ?c ?k
  (case a => k_is); (case l => k_is); (case c => k_is); (case k => k_is)
theorem BL.df_law (w : World) : BL.DefF (head.heap_39 w.params) "law" (BL.topS 55) := by
  refine' BL.defF_mk ?a ?l ?c ?k
  (case a => k_is); (case l => k_is); (case c => k_is); (case k => k_is)
theorem BL.fr_len (w : World) : PySem.W.nsIn (head.heap_39 w.params) mainGlobals "len" = some none := by k_is
theorem BL.fr_range (w : World) : PySem.W.nsIn (head.heap_39 w.params) mainGlobals "range" = some none := by k_is
theorem BL.fr_isinstance (w : World) : PySem.W.nsIn (head.heap_39 w.params) mainGlobals "isinstance" = some none := by k_is
theorem BL.fr_enumerate (w : World) : PySem.W.nsIn (head.heap_39 w.params) mainGlobals "enumerate" = some none := by k_is
theorem BL.fr_abs (w : World) : PySem.W.nsIn (head.heap_39 w.params) mainGlobals "abs" = some none := by k_is
theorem BL.fr_max (w : World) : PySem.W.nsIn (head.heap_39 w.params) mainGlobals "max" = some none := by k_is
theorem BL.fr_int (w : World) : PySem.W.nsIn (head.heap_39 w.params) mainGlobals "int" = some none := by k_is
theorem BL.fr_list (w : World) : PySem.W.nsIn (head.heap_39 w.params) mainGlobals "list" = some none := by k_is
theorem BL.fr_tuple (w : World) : PySem.W.nsIn (head.heap_39 w.params) mainGlobals "tuple" = some none := by k_is
theorem BL.fr_reversed (w : World) : PySem.W.nsIn (head.heap_39 w.params) mainGlobals "reversed" = some none := by k_is
theorem BL.fr_repr (w : World) : PySem.W.nsIn (head.heap_39 w.params) mainGlobals "repr" = some none := by k_is
theorem BL.fr_bool (w : World) : PySem.W.nsIn (head.heap_39 w.params) mainGlobals "bool" = some none := by k_is
theorem BL.fr_super (w : World) : PySem.W.nsIn (head.heap_39 w.params) mainGlobals "super" = some none := by k_is
theorem BL.fr_ValueError (w : World) : PySem.W.nsIn (head.heap_39 w.params) mainGlobals "ValueError" = some none := by k_is
end

section
set_option Elab.async false
set_option linter.all false
set_option maxRecDepth 100000
set_option maxHeartbeats 0
namespace BL
open PySem PySem.Spec PyProof.Rows L2
noncomputable abbrev KK (w : World) : PySem.W.Frag := head.heap_39 w.params
section
variable {P : Program} {w : World} {mg : Str → Option Value} {base : Heap} {exC : String → Option Addr}
theorem no_len (KB : (KK w).In base) (GB : base.Ns mainGlobals mg) : mg "len" = none := PySem.W.mg_none_of KB GB (fr_len w)
theorem bb_len : bootBuiltins "len" = some (.builtin "len") := by kernel_rfl
theorem no_range (KB : (KK w).In base) (GB : base.Ns mainGlobals mg) : mg "range" = none := PySem.W.mg_none_of KB GB (fr_range w)
theorem bb_range : bootBuiltins "range" = some (.type "range") := by kernel_rfl
theorem no_isinstance (KB : (KK w).In base) (GB : base.Ns mainGlobals mg) : mg "isinstance" = none := PySem.W.mg_none_of KB GB (fr_isinstance w)
theorem bb_isinstance : bootBuiltins "isinstance" = some (.builtin "isinstance") := by kernel_rfl
theorem no_enumerate (KB : (KK w).In base) (GB : base.Ns mainGlobals mg) : mg "enumerate" = none := PySem.W.mg_none_of KB GB (fr_enumerate w)
theorem bb_enumerate : bootBuiltins "enumerate" = some (.type "enumerate") := by kernel_rfl
theorem no_abs (KB : (KK w).In base) (GB : base.Ns mainGlobals mg) : mg "abs" = none := PySem.W.mg_none_of KB GB (fr_abs w)
theorem bb_abs : bootBuiltins "abs" = some (.builtin "abs") := by kernel_rfl
theorem no_max (KB : (KK w).In base) (GB : base.Ns mainGlobals mg) : mg "max" = none := PySem.W.mg_none_of KB GB (fr_max w)
theorem bb_max : bootBuiltins "max" = some (.builtin "max") := by kernel_rfl
theorem no_int (KB : (KK w).In base) (GB : base.Ns mainGlobals mg) : mg "int" = none := PySem.W.mg_none_of KB GB (fr_int w)
theorem bb_int : bootBuiltins "int" = some (.type "int") := by kernel_rfl
theorem no_list (KB : (KK w).In base) (GB : base.Ns mainGlobals mg) : mg "list" = none := PySem.W.mg_none_of KB GB (fr_list w)
theorem bb_list : bootBuiltins "list" = some (.type "list") := by kernel_rfl
theorem no_tuple (KB : (KK w).In base) (GB : base.Ns mainGlobals mg) : mg "tuple" = none := PySem.W.mg_none_of KB GB (fr_tuple w)
theorem bb_tuple : bootBuiltins "tuple" = some (.type "tuple") := by kernel_rfl
theorem no_reversed (KB : (KK w).In base) (GB : base.Ns mainGlobals mg) : mg "reversed" = none := PySem.W.mg_none_of KB GB (fr_reversed w)
theorem bb_reversed : bootBuiltins "reversed" = some (.type "reversed") := by kernel_rfl
theorem no_repr (KB : (KK w).In base) (GB : base.Ns mainGlobals mg) : mg "repr" = none := PySem.W.mg_none_of KB GB (fr_repr w)
theorem bb_repr : bootBuiltins "repr" = some (.builtin "repr") := by kernel_rfl
theorem no_bool (KB : (KK w).In base) (GB : base.Ns mainGlobals mg) : mg "bool" = none := PySem.W.mg_none_of KB GB (fr_bool w)
theorem bb_bool : bootBuiltins "bool" = some (.type "bool") := by kernel_rfl
theorem no_super (KB : (KK w).In base) (GB : base.Ns mainGlobals mg) : mg "super" = none := PySem.W.mg_none_of KB GB (fr_super w)
theorem bb_super : bootBuiltins "super" = some (.type "super") := by kernel_rfl
theorem no_ValueError (KB : (KK w).In base) (GB : base.Ns mainGlobals mg) : mg "ValueError" = none := PySem.W.mg_none_of KB GB (fr_ValueError w)
theorem tk_MOST_PART (KB : (KK w).In base) (GB : base.Ns mainGlobals mg) : ∃ t, mg "MOST_PART" = some (.int 1000000000000000000000000000000000000000000000000000000000000 t) := let ⟨t, h⟩ := gi_MOST_PART w; ⟨t, PySem.W.mg_of KB GB h⟩
theorem tk_MOST_DEGREE (KB : (KK w).In base) (GB : base.Ns mainGlobals mg) : ∃ t, mg "MOST_DEGREE" = some (.int 64 t) := let ⟨t, h⟩ := gi_MOST_DEGREE w; ⟨t, PySem.W.mg_of KB GB h⟩
theorem tk_MOST_ROW (KB : (KK w).In base) (GB : base.Ns mainGlobals mg) : ∃ t, mg "MOST_ROW" = some (.int 8 t) := let ⟨t, h⟩ := gi_MOST_ROW w; ⟨t, PySem.W.mg_of KB GB h⟩
theorem tk_MOST_LOOKED_AT (KB : (KK w).In base) (GB : base.Ns mainGlobals mg) : ∃ t, mg "MOST_LOOKED_AT" = some (.int 2000 t) := let ⟨t, h⟩ := gi_MOST_LOOKED_AT w; ⟨t, PySem.W.mg_of KB GB h⟩
theorem gb_of (KB : (KK w).In base) (GB : base.Ns mainGlobals mg) : mg "gcd" = some (.builtin "math.gcd") := PySem.W.mg_of KB GB (gb_gcd w)
theorem sc__law_begin : FnScope ["_law_script", "_law_cells_so", "_law_lefts", "_law_cell"] ["_law_script"] (defScope (topS 37)) := ⟨rfl, rfl, rfl, by decide +kernel, rfl, by decide +kernel, by decide +kernel⟩
theorem fb__law_begin (KB : (KK w).In base) (GB : base.Ns mainGlobals mg) : ∃ f fd, FnG P w (KK w) mg base (L2.CX P w) 1 f fd ["_law_script"] (spBegin (KK w)) ∧ mg "_law_begin" = some (.ref f) ∧ PySem.W.keepIn (KK w) (.ref f) = true ∧ Binds (KK w) fd ["_law_script"] [] := by
  obtain ⟨f, fd, h1, F⟩ := (df__law_begin w).ex
  refine ⟨f, fd, fnG_of F sc__law_begin (fun vs H Q E h => by obtain ⟨a, ns, rfl, _⟩ := h; rfl) fun cdv A fr0 s H vs Q E r0 h => ⟨_, ?_, read_begin (exC := fun _ => none) (W := WF) rfl h⟩, PySem.W.mg_of KB GB h1, F.kp, F.binds (fun _ _ _ _ _ _ us hl => match us, hl with | [_], _ => rfl)⟩
  have hu : (A.deeper (envOfC "_law_begin" (defScope (topS 37)) s.heap.objs.size f cdv)).units + 1 < cLine := by have := r0.un; omega
  have hu64 : (A.deeper (envOfC "_law_begin" (defScope (topS 37)) s.heap.objs.size f cdv)).units + 64 < cLine := by have := r0.un; omega
  have nd := sc__law_begin.nd
  unfold mBegin1 mBegin2
  exact (pss_cons (bs_set (ps_set (i := 1) nd rfl (by first | exact .inl rfl | exact .inr rfl) (be_ifExp (bt_cmp (op_neD hu64) ops_ne (be_name 0) (be_lst ba_nil) (nomark _)) (be_cb (pe_callTy (cr_list rfl) rfl (no_list KB GB) bb_list (br_cons (be_name 0) br_nil)) cs_list) (be_lst (ba_cons be_int ba_nil)))) (fun _ _ _ h => h)) (pss_cons (bs_un (i := 1) (by first | exact bs_set (ps_set (i := 2) nd rfl (by first | exact .inl rfl | exact .inr rfl) (be_lc rfl nd (bi_seq rfl (be_name 1)) (own := [("_law_cell", 3)]) (blkOk_by (by rfl)) (fun _ _ _ _ _ => (pg_name (i := 3) nd rfl (by first | exact .inl rfl | exact .inr rfl))) (fun _ _ _ _ _ => bts_nil) (fun _ _ _ _ _ => (be_ifExp (bt_cmp op_ge (ops_cmp _) (be_name 3) (be_op op_pow ops_pow be_int be_int) (nomark _)) (be_name 3) be_int)) tg_name (by decide))) (fun _ _ _ h => h) | exact bs_setLc (i := 2) rfl nd rfl rfl rfl (bi_seq rfl (be_name 1)) (own := [("_law_cell", 3)]) (blkOk_by (by rfl)) (fun _ _ _ _ _ => (pg_name (i := 3) nd rfl (by first | exact .inl rfl | exact .inr rfl))) (fun _ _ _ _ _ => bts_nil) (fun _ _ _ _ _ => (be_ifExp (bt_cmp op_ge (ops_cmp _) (be_name 3) (be_op op_pow ops_pow be_int be_int) (nomark _)) (be_name 3) be_int)) tg_name (by decide))) (pss_one (ps_ret (pe_disp (pps_cons pe_str (pe_var (i := 1) rfl (by first | exact Or.inl rfl | exact Or.inr (Or.inl rfl))) (pps_cons pe_str (pe_var (i := 2) rfl (by first | exact Or.inl rfl | exact Or.inr (Or.inl rfl))) (pps_cons pe_str pe_int pps_nil))) rfl rfl (by simp) (by decide))))))
def mb__law_like (fu : Nat) : SM := (sRet (eOp eqD (eCB reprD (rCons (eName 0) aNil)) (eCB reprD (rCons (eName 1) aNil))))
def mr__law_like (fu : Nat) : Mir := mirOf 2 (mb__law_like fu)
theorem sc__law_like : FnScope ["_law_got", "_law_due"] ["_law_got", "_law_due"] (defScope (topS 46)) := ⟨rfl, rfl, rfl, by decide +kernel, rfl, by decide +kernel, by decide +kernel⟩
theorem c__law_like (fu : Nat) (KB : (KK w).In base) (GB : base.Ns mainGlobals mg) : Cal P w (KK w) mg base exC 1 "_law_like" 2 (mr__law_like fu) :=
  cal_of KB GB (df__law_like w) sc__law_like 2 rfl rfl (fun _ _ _ _ _ _ us hl => match us, hl with | [_, _], _ => rfl)
  fun cdv A fr0 s H E f sa O H0 stt r0 hx => by
  have hu : (A.deeper (envOfC "_law_like" (defScope (topS 46)) s.heap.objs.size f cdv)).units + 1 < cLine := by have := r0.un; omega
  have hu64 : (A.deeper (envOfC "_law_like" (defScope (topS 46)) s.heap.objs.size f cdv)).units + 64 < cLine := by have := r0.un; omega
  have hu65 : (A.deeper (envOfC "_law_like" (defScope (topS 46)) s.heap.objs.size f cdv)).units + 65 < cLine := by have := r0.un; omega
  have nd := sc__law_like.nd
  unfold mb__law_like
  exact (bss_one (bs_ret (be_cmp (op_eqD hu64) ops_eq (be_cb (pe_callB (cr_repr hu64 r0.gs) rfl (no_repr KB GB) bb_repr (br_cons (be_name 0) br_nil)) cs_repr) (be_cb (pe_callB (cr_repr hu64 r0.gs) rfl (no_repr KB GB) bb_repr (br_cons (be_name 1) br_nil)) cs_repr) (nomark _))))
def mb_is_from (fu : Nat) : SM := (sRet (eAnd (eCB isiD (rCons (eName 0) (rCons (eC (.op (.ty "int"))) aNil))) (eAnd (eNot (eCB isiD (rCons (eName 0) (rCons (eC (.op (.ty "bool"))) aNil)))) (eChain leD leD (eName 1) (eName 0) (eName 2)))))
def mr_is_from (fu : Nat) : Mir := mirOf 3 (mb_is_from fu)
theorem sc_is_from : FnScope ["value", "low", "high"] ["value", "low", "high"] (defScope (topS 11)) := ⟨rfl, rfl, rfl, by decide +kernel, rfl, by decide +kernel, by decide +kernel⟩
theorem c_is_from (fu : Nat) (KB : (KK w).In base) (GB : base.Ns mainGlobals mg) : Cal P w (KK w) mg base exC 1 "is_from" 3 (mr_is_from fu) :=
  cal_of KB GB (df_is_from w) sc_is_from 3 rfl rfl (fun _ _ _ _ _ _ us hl => match us, hl with | [_, _, _], _ => rfl)
  fun cdv A fr0 s H E f sa O H0 stt r0 hx => by
  have hu : (A.deeper (envOfC "is_from" (defScope (topS 11)) s.heap.objs.size f cdv)).units + 1 < cLine := by have := r0.un; omega
  have hu64 : (A.deeper (envOfC "is_from" (defScope (topS 11)) s.heap.objs.size f cdv)).units + 64 < cLine := by have := r0.un; omega
  have hu65 : (A.deeper (envOfC "is_from" (defScope (topS 11)) s.heap.objs.size f cdv)).units + 65 < cLine := by have := r0.un; omega
  have nd := sc_is_from.nd
  unfold mb_is_from
  exact (bss_one (bs_ret (be_and (be_cb (pe_callB call_isi rfl (no_isinstance KB GB) bb_isinstance (br_cons (be_name 0) (br_cons (be_type rfl (no_int KB GB) bb_int) br_nil))) cs_isi) (be_and (be_not (be_cb (pe_callB call_isi rfl (no_isinstance KB GB) bb_isinstance (br_cons (be_name 0) (br_cons (be_type rfl (no_bool KB GB) bb_bool) br_nil))) cs_isi)) (be_one (be_chain op_le op_le (ops_cmp _) (ops_cmp _) (be_name 1) (be_name 0) (be_name 2)))))))
def mb_is_number (fu : Nat) : SM := (sSeq (sIf (bOr (bNot (tOf (eCB isiD (rCons (eName 0) (rCons (eC (.op (.ty "tuple"))) aNil))))) (tOf (eOp neD (eCB lenD (rCons (eName 0) aNil)) (eC (.int 2))))) (sRet (eC (.bl false))) sNext) (sSeq (sIf (bOr (bNot (tOf (eCall 3 (mr_is_from fu) (qCons (eOp ixD (eName 0) (eC (.int 0))) (qCons (eUn negD (eC (.int 1000000000000000000000000000000000000000000000000000000000000))) (qCons (eC (.int 1000000000000000000000000000000000000000000000000000000000000)) qNil)))))) (bNot (tOf (eCall 3 (mr_is_from fu) (qCons (eOp ixD (eName 0) (eC (.int 1))) (qCons (eC (.int 1)) (qCons (eC (.int 1000000000000000000000000000000000000000000000000000000000000)) qNil))))))) (sRet (eC (.bl false))) sNext) (sRet (eOp eqD (eCB gcdD (rCons (eOp ixD (eName 0) (eC (.int 0))) (rCons (eOp ixD (eName 0) (eC (.int 1))) aNil))) (eC (.int 1))))))
def mr_is_number (fu : Nat) : Mir := mirOf 1 (mb_is_number fu)
theorem sc_is_number : FnScope ["value"] ["value"] (defScope (topS 12)) := ⟨rfl, rfl, rfl, by decide +kernel, rfl, by decide +kernel, by decide +kernel⟩
theorem c_is_number (fu : Nat) (KB : (KK w).In base) (GB : base.Ns mainGlobals mg) : Cal P w (KK w) mg base exC 2 "is_number" 1 (mr_is_number fu) :=
  cal_of KB GB (df_is_number w) sc_is_number 1 rfl rfl (fun _ _ _ _ _ _ us hl => match us, hl with | [_], _ => rfl)
  fun cdv A fr0 s H E f sa O H0 stt r0 hx => by
  have hu : (A.deeper (envOfC "is_number" (defScope (topS 12)) s.heap.objs.size f cdv)).units + 1 < cLine := by have := r0.un; omega
  have hu64 : (A.deeper (envOfC "is_number" (defScope (topS 12)) s.heap.objs.size f cdv)).units + 64 < cLine := by have := r0.un; omega
  have hu65 : (A.deeper (envOfC "is_number" (defScope (topS 12)) s.heap.objs.size f cdv)).units + 65 < cLine := by have := r0.un; omega
  have nd := sc_is_number.nd
  unfold mb_is_number
  exact (bss_cons (bs_if (bt_w (bw_or (bt_not (bt_val (be_cb (pe_callB call_isi rfl (no_isinstance KB GB) bb_isinstance (br_cons (be_name 0) (br_cons (be_type rfl (no_tuple KB GB) bb_tuple) br_nil))) cs_isi))) (bw_or1 (bt_cmp (op_neD hu64) ops_ne (be_cb (pe_callB cr_len rfl (no_len KB GB) bb_len (br_cons (be_name 0) br_nil)) cs_len) be_int (nomark _))))) (bss_one (bs_ret be_bl)) bss_nil)
    (bss_cons (bs_if (bt_w (bw_or (bt_not (bt_val (bc (c_is_from fu KB GB) r0 (by decide) hx rfl rfl rfl (bq_cons (be_ix rfl hu (be_name 0) be_int (fun _ _ => rfl)) (bq_cons (be_neg (be_globI rfl (tk_MOST_PART KB GB))) (bq_cons (be_globI rfl (tk_MOST_PART KB GB)) bq_nil)))))) (bw_or1 (bt_not (bt_val (bc (c_is_from fu KB GB) r0 (by decide) hx rfl rfl rfl (bq_cons (be_ix rfl hu (be_name 0) be_int (fun _ _ => rfl)) (bq_cons be_int (bq_cons (be_globI rfl (tk_MOST_PART KB GB)) bq_nil))))))))) (bss_one (bs_ret be_bl)) bss_nil)
    (bss_one (bs_ret (be_cmp (op_eqD hu64) ops_eq (be_cb (pe_callBfun cr_gcd rfl (gb_of KB GB) (br_cons (be_ix rfl hu (be_name 0) be_int (fun _ _ => rfl)) (br_cons (be_ix rfl hu (be_name 0) be_int (fun _ _ => rfl)) br_nil))) cs_gcd) be_int (nomark _))))))
def mb_is_step (fu : Nat) : SM := (sSeq (sIf (bOr (bNot (tOf (eCB isiD (rCons (eName 0) (rCons (eC (.op (.ty "tuple"))) aNil))))) (bNot (tOf (eChain leD leD (eC (.int 2)) (eCB lenD (rCons (eName 0) aNil)) (eOp addD (eC (.int 64)) (eC (.int 1))))))) (sRet (eC (.bl false))) sNext) (sSeq (sFor (iSeq (eName 0)) (tgN 1) (sIf (bNot (tOf (eCall 1 (mr_is_number fu) (qCons (eName 1) qNil)))) (sRet (eC (.bl false))) sNext)) (sRet (eOp neD (eOp ixD (eOp ixD (eName 0) (eUn negD (eC (.int 1)))) (eC (.int 0))) (eC (.int 0))))))
def mr_is_step (fu : Nat) : Mir := mirOf 2 (mb_is_step fu)
theorem sc_is_step : FnScope ["value", "number"] ["value"] (defScope (topS 13)) := ⟨rfl, rfl, rfl, by decide +kernel, rfl, by decide +kernel, by decide +kernel⟩
theorem c_is_step (fu : Nat) (KB : (KK w).In base) (GB : base.Ns mainGlobals mg) : Cal P w (KK w) mg base exC 3 "is_step" 1 (mr_is_step fu) :=
  cal_of KB GB (df_is_step w) sc_is_step 2 rfl rfl (fun _ _ _ _ _ _ us hl => match us, hl with | [_], _ => rfl)
  fun cdv A fr0 s H E f sa O H0 stt r0 hx => by
  have hu : (A.deeper (envOfC "is_step" (defScope (topS 13)) s.heap.objs.size f cdv)).units + 1 < cLine := by have := r0.un; omega
  have hu64 : (A.deeper (envOfC "is_step" (defScope (topS 13)) s.heap.objs.size f cdv)).units + 64 < cLine := by have := r0.un; omega
  have hu65 : (A.deeper (envOfC "is_step" (defScope (topS 13)) s.heap.objs.size f cdv)).units + 65 < cLine := by have := r0.un; omega
  have nd := sc_is_step.nd
  unfold mb_is_step
  exact (bss_cons (bs_if (bt_w (bw_or (bt_not (bt_val (be_cb (pe_callB call_isi rfl (no_isinstance KB GB) bb_isinstance (br_cons (be_name 0) (br_cons (be_type rfl (no_tuple KB GB) bb_tuple) br_nil))) cs_isi))) (bw_or1 (bt_not (bt_chain op_le op_le (ops_cmp _) (ops_cmp _) be_int (be_cb (pe_callB cr_len rfl (no_len KB GB) bb_len (br_cons (be_name 0) br_nil)) cs_len) (be_op opr_add ops_add (be_globI rfl (tk_MOST_DEGREE KB GB)) be_int)))))) (bss_one (bs_ret be_bl)) bss_nil)
    (bss_cons (bs_for (passes_of rfl) rfl (bi_seq rfl (be_name 0)) (pg_name (i := 1) nd rfl (by first | exact .inl rfl | exact .inr rfl)) tg_name (bss_one (bs_if (bt_not (bt_val (bc (c_is_number fu KB GB) r0 (by decide) hx rfl rfl rfl (bq_cons (be_name 1) bq_nil)))) (bss_one (bs_ret be_bl)) bss_nil)))
    (bss_one (bs_ret (be_cmp (op_neD hu64) ops_ne (be_ix rfl hu (be_ix rfl hu (be_name 0) (be_neg be_int) (fun _ _ => rfl)) be_int (fun _ _ => rfl)) be_int (nomark _))))))
def mb_need_row (fu : Nat) : SM := (sSeq (sIf (bOr (bNot (tOf (eCB isiD (rCons (eName 0) (rCons (eC (.op (.ty "tuple"))) aNil))))) (bNot (tOf (eChain leD leD (eC (.int 1)) (eCB lenD (rCons (eName 0) aNil)) (eC (.int 8)))))) sBad sNext) (sSeq (sFor (iArg enumO (aCons (eName 0) aNil)) (tgT [1, 2]) (sIf (bNot (tOf (eCall 1 (mr_is_step fu) (qCons (eName 2) qNil)))) sBad sNext)) (sRetV 0)))
def mr_need_row (fu : Nat) : Mir := mirOf 3 (mb_need_row fu)
theorem sc_need_row : FnScope ["value", "index", "step"] ["value"] (defScope (topS 15)) := ⟨rfl, rfl, rfl, by decide +kernel, rfl, by decide +kernel, by decide +kernel⟩
theorem c_need_row (fu : Nat) (KB : (KK w).In base) (GB : base.Ns mainGlobals mg) : Cal P w (KK w) mg base exC 4 "need_row" 1 (mr_need_row fu) :=
  cal_of KB GB (df_need_row w) sc_need_row 3 rfl rfl (fun _ _ _ _ _ _ us hl => match us, hl with | [_], _ => rfl)
  fun cdv A fr0 s H E f sa O H0 stt r0 hx => by
  have hu : (A.deeper (envOfC "need_row" (defScope (topS 15)) s.heap.objs.size f cdv)).units + 1 < cLine := by have := r0.un; omega
  have hu64 : (A.deeper (envOfC "need_row" (defScope (topS 15)) s.heap.objs.size f cdv)).units + 64 < cLine := by have := r0.un; omega
  have hu65 : (A.deeper (envOfC "need_row" (defScope (topS 15)) s.heap.objs.size f cdv)).units + 65 < cLine := by have := r0.un; omega
  have nd := sc_need_row.nd
  unfold mb_need_row
  exact (bss_cons (bs_if (bt_w (bw_or (bt_not (bt_val (be_cb (pe_callB call_isi rfl (no_isinstance KB GB) bb_isinstance (br_cons (be_name 0) (br_cons (be_type rfl (no_tuple KB GB) bb_tuple) br_nil))) cs_isi))) (bw_or1 (bt_not (bt_chain op_le op_le (ops_cmp _) (ops_cmp _) be_int (be_cb (pe_callB cr_len rfl (no_len KB GB) bb_len (br_cons (be_name 0) br_nil)) cs_len) (be_globI rfl (tk_MOST_ROW KB GB))))))) (bss_one bs_bad) bss_nil)
    (bss_cons (bs_for (passes_of rfl) rfl (bi_enum rfl rfl (no_enumerate KB GB) (ba_cons (be_name 0) ba_nil)) (pg_tup rfl (pgs_cons (pg_name (i := 1) nd rfl (by first | exact .inl rfl | exact .inr rfl)) (pgs_cons (pg_name (i := 2) nd rfl (by first | exact .inl rfl | exact .inr rfl)) pgs_nil))) (tg_tup (is := [1, 2]) rfl rfl) (bss_one (bs_if (bt_not (bt_val (bc (c_is_step fu KB GB) r0 (by decide) hx rfl rfl rfl (bq_cons (be_name 2) bq_nil)))) (bss_one bs_bad) bss_nil)))
    (bss_one (bs_retV (i := 0)))))
def mb_is_growing (fu : Nat) : SM := (sSeq (sIf (tOf (eOp neD (eLc (iSeq (eName 0)) (tgN 1) (tOf (eOp neD (eOp ixD (eName 1) (eC (.int 1))) (eC (.int 1)))) (eC (.int 1)) [1]) (eLst aNil))) (sRet (eC (.bl false))) sNext) (sRet (eOr (eOp gtD (eCB lenD (rCons (eName 0) aNil)) (eC (.int 2))) (eOp gtD (eCB absD (rCons (eOp ixD (eOp ixD (eName 0) (eC (.int 1))) (eC (.int 0))) aNil)) (eC (.int 1))))))
def mr_is_growing (fu : Nat) : Mir := mirOf 2 (mb_is_growing fu)
theorem sc_is_growing : FnScope ["step", "number"] ["step"] (defScope (topS 27)) := ⟨rfl, rfl, rfl, by decide +kernel, rfl, by decide +kernel, by decide +kernel⟩
theorem c_is_growing (fu : Nat) (KB : (KK w).In base) (GB : base.Ns mainGlobals mg) : Cal P w (KK w) mg base exC 1 "is_growing" 1 (mr_is_growing fu) :=
  cal_of KB GB (df_is_growing w) sc_is_growing 2 rfl rfl (fun _ _ _ _ _ _ us hl => match us, hl with | [_], _ => rfl)
  fun cdv A fr0 s H E f sa O H0 stt r0 hx => by
  have hu : (A.deeper (envOfC "is_growing" (defScope (topS 27)) s.heap.objs.size f cdv)).units + 1 < cLine := by have := r0.un; omega
  have hu64 : (A.deeper (envOfC "is_growing" (defScope (topS 27)) s.heap.objs.size f cdv)).units + 64 < cLine := by have := r0.un; omega
  have hu65 : (A.deeper (envOfC "is_growing" (defScope (topS 27)) s.heap.objs.size f cdv)).units + 65 < cLine := by have := r0.un; omega
  have nd := sc_is_growing.nd
  unfold mb_is_growing
  exact (bss_cons (bs_if (bt_cmp (op_neD hu64) ops_ne (be_lc rfl nd (bi_seq rfl (be_name 0)) (own := [("number", 1)]) (blkOk_by (by rfl)) (fun _ _ _ _ _ => (pg_name (i := 1) nd rfl (by first | exact .inl rfl | exact .inr rfl))) (fun _ _ _ _ _ => (bts_one (bt_cmp (op_neD hu64) ops_ne (be_ix rfl hu (be_name 1) be_int (fun _ _ => rfl)) be_int (nomark _)))) (fun _ _ _ _ _ => be_int) tg_name (by decide)) (be_lst ba_nil) (nomark _)) (bss_one (bs_ret be_bl)) bss_nil)
    (bss_one (bs_ret (be_or (be_cmp op_gt (ops_cmp _) (be_cb (pe_callB cr_len rfl (no_len KB GB) bb_len (br_cons (be_name 0) br_nil)) cs_len) be_int (nomark _)) (be_one (be_cmp op_gt (ops_cmp _) (be_cb (pe_callB call_abs rfl (no_abs KB GB) bb_abs (br_cons (be_ix rfl hu (be_ix rfl hu (be_name 0) be_int (fun _ _ => rfl)) be_int (fun _ _ => rfl)) br_nil)) cs_abs) be_int (nomark _)))))))
def mb_need_choices (fu : Nat) : SM := (sSeq (sExpr (eCall 1 (mr_need_row fu) (qCons (eName 0) qNil))) (sSeq (sFor (iArg enumO (aCons (eName 0) aNil)) (tgT [1, 2]) (sIf (bNot (tOf (eCall 1 (mr_is_growing fu) (qCons (eName 2) qNil)))) sBad sNext)) (sRetV 0)))
def mr_need_choices (fu : Nat) : Mir := mirOf 3 (mb_need_choices fu)
theorem sc_need_choices : FnScope ["steps", "index", "step"] ["steps"] (defScope (topS 28)) := ⟨rfl, rfl, rfl, by decide +kernel, rfl, by decide +kernel, by decide +kernel⟩
theorem c_need_choices (fu : Nat) (KB : (KK w).In base) (GB : base.Ns mainGlobals mg) : Cal P w (KK w) mg base exC 5 "need_choices" 1 (mr_need_choices fu) :=
  cal_of KB GB (df_need_choices w) sc_need_choices 3 rfl rfl (fun _ _ _ _ _ _ us hl => match us, hl with | [_], _ => rfl)
  fun cdv A fr0 s H E f sa O H0 stt r0 hx => by
  have hu : (A.deeper (envOfC "need_choices" (defScope (topS 28)) s.heap.objs.size f cdv)).units + 1 < cLine := by have := r0.un; omega
  have hu64 : (A.deeper (envOfC "need_choices" (defScope (topS 28)) s.heap.objs.size f cdv)).units + 64 < cLine := by have := r0.un; omega
  have hu65 : (A.deeper (envOfC "need_choices" (defScope (topS 28)) s.heap.objs.size f cdv)).units + 65 < cLine := by have := r0.un; omega
  have nd := sc_need_choices.nd
  unfold mb_need_choices
  exact (bss_cons (bs_expr (bc (c_need_row fu KB GB) r0 (by decide) hx rfl rfl rfl (bq_cons (be_name 0) bq_nil)))
    (bss_cons (bs_for (passes_of rfl) rfl (bi_enum rfl rfl (no_enumerate KB GB) (ba_cons (be_name 0) ba_nil)) (pg_tup rfl (pgs_cons (pg_name (i := 1) nd rfl (by first | exact .inl rfl | exact .inr rfl)) (pgs_cons (pg_name (i := 2) nd rfl (by first | exact .inl rfl | exact .inr rfl)) pgs_nil))) (tg_tup (is := [1, 2]) rfl rfl) (bss_one (bs_if (bt_not (bt_val (bc (c_is_growing fu KB GB) r0 (by decide) hx rfl rfl rfl (bq_cons (be_name 2) bq_nil)))) (bss_one bs_bad) bss_nil)))
    (bss_one (bs_retV (i := 0)))))
def mb_need_number (fu : Nat) : SM := (sSeq (sIf (bNot (tOf (eCall 1 (mr_is_number fu) (qCons (eName 0) qNil)))) sBad sNext) (sRetV 0))
def mr_need_number (fu : Nat) : Mir := mirOf 1 (mb_need_number fu)
theorem sc_need_number : FnScope ["value"] ["value"] (defScope (topS 14)) := ⟨rfl, rfl, rfl, by decide +kernel, rfl, by decide +kernel, by decide +kernel⟩
theorem c_need_number (fu : Nat) (KB : (KK w).In base) (GB : base.Ns mainGlobals mg) : Cal P w (KK w) mg base exC 3 "need_number" 1 (mr_need_number fu) :=
  cal_of KB GB (df_need_number w) sc_need_number 1 rfl rfl (fun _ _ _ _ _ _ us hl => match us, hl with | [_], _ => rfl)
  fun cdv A fr0 s H E f sa O H0 stt r0 hx => by
  have hu : (A.deeper (envOfC "need_number" (defScope (topS 14)) s.heap.objs.size f cdv)).units + 1 < cLine := by have := r0.un; omega
  have hu64 : (A.deeper (envOfC "need_number" (defScope (topS 14)) s.heap.objs.size f cdv)).units + 64 < cLine := by have := r0.un; omega
  have hu65 : (A.deeper (envOfC "need_number" (defScope (topS 14)) s.heap.objs.size f cdv)).units + 65 < cLine := by have := r0.un; omega
  have nd := sc_need_number.nd
  unfold mb_need_number
  exact (bss_cons (bs_if (bt_not (bt_val (bc (c_is_number fu KB GB) r0 (by decide) hx rfl rfl rfl (bq_cons (be_name 0) bq_nil)))) (bss_one bs_bad) bss_nil)
    (bss_one (bs_retV (i := 0))))
def mb_need_whole (fu : Nat) : SM := (sSeq (sExpr (eCall 1 (mr_need_number fu) (qCons (eName 0) qNil))) (sSeq (sIf (tOf (eOp neD (eOp ixD (eName 0) (eC (.int 1))) (eC (.int 1)))) sBad sNext) (sRet (eOp ixD (eName 0) (eC (.int 0))))))
def mr_need_whole (fu : Nat) : Mir := mirOf 1 (mb_need_whole fu)
theorem sc_need_whole : FnScope ["number"] ["number"] (defScope (topS 23)) := ⟨rfl, rfl, rfl, by decide +kernel, rfl, by decide +kernel, by decide +kernel⟩
theorem c_need_whole (fu : Nat) (KB : (KK w).In base) (GB : base.Ns mainGlobals mg) : Cal P w (KK w) mg base exC 4 "need_whole" 1 (mr_need_whole fu) :=
  cal_of KB GB (df_need_whole w) sc_need_whole 1 rfl rfl (fun _ _ _ _ _ _ us hl => match us, hl with | [_], _ => rfl)
  fun cdv A fr0 s H E f sa O H0 stt r0 hx => by
  have hu : (A.deeper (envOfC "need_whole" (defScope (topS 23)) s.heap.objs.size f cdv)).units + 1 < cLine := by have := r0.un; omega
  have hu64 : (A.deeper (envOfC "need_whole" (defScope (topS 23)) s.heap.objs.size f cdv)).units + 64 < cLine := by have := r0.un; omega
  have hu65 : (A.deeper (envOfC "need_whole" (defScope (topS 23)) s.heap.objs.size f cdv)).units + 65 < cLine := by have := r0.un; omega
  have nd := sc_need_whole.nd
  unfold mb_need_whole
  exact (bss_cons (bs_expr (bc (c_need_number fu KB GB) r0 (by decide) hx rfl rfl rfl (bq_cons (be_name 0) bq_nil)))
    (bss_cons (bs_if (bt_cmp (op_neD hu64) ops_ne (be_ix rfl hu (be_name 0) be_int (fun _ _ => rfl)) be_int (nomark _)) (bss_one bs_bad) bss_nil)
    (bss_one (bs_ret (be_ix rfl hu (be_name 0) be_int (fun _ _ => rfl))))))
def mb_whole_numbers (fu : Nat) : SM := (sRet (eLc (iSeq (eName 0)) (tgN 1) bYes (eLc (iSeq (eName 1)) (tgN 2) bYes (eOp ixD (eName 2) (eC (.int 0))) [2]) [1]))
def mr_whole_numbers (fu : Nat) : Mir := mirOf 3 (mb_whole_numbers fu)
theorem sc_whole_numbers : FnScope ["steps", "step", "number"] ["steps"] (defScope (topS 30)) := ⟨rfl, rfl, rfl, by decide +kernel, rfl, by decide +kernel, by decide +kernel⟩
theorem c_whole_numbers (fu : Nat) (KB : (KK w).In base) (GB : base.Ns mainGlobals mg) : Cal P w (KK w) mg base exC 1 "whole_numbers" 1 (mr_whole_numbers fu) :=
  cal_of KB GB (df_whole_numbers w) sc_whole_numbers 3 rfl rfl (fun _ _ _ _ _ _ us hl => match us, hl with | [_], _ => rfl)
  fun cdv A fr0 s H E f sa O H0 stt r0 hx => by
  have hu : (A.deeper (envOfC "whole_numbers" (defScope (topS 30)) s.heap.objs.size f cdv)).units + 1 < cLine := by have := r0.un; omega
  have hu64 : (A.deeper (envOfC "whole_numbers" (defScope (topS 30)) s.heap.objs.size f cdv)).units + 64 < cLine := by have := r0.un; omega
  have hu65 : (A.deeper (envOfC "whole_numbers" (defScope (topS 30)) s.heap.objs.size f cdv)).units + 65 < cLine := by have := r0.un; omega
  have nd := sc_whole_numbers.nd
  unfold mb_whole_numbers
  exact (bss_one (bs_ret (be_lc rfl nd (bi_seq rfl (be_name 0)) (own := [("step", 1)]) (blkOk_by (by rfl)) (fun _ _ _ _ _ => (pg_name (i := 1) nd rfl (by first | exact .inl rfl | exact .inr rfl))) (fun _ _ _ _ _ => bts_nil) (fun _ _ _ _ _ => (be_lc rfl nd (bi_seq rfl (be_name 1)) (own := [("number", 2)]) (blkOk_by (by rfl)) (fun _ _ _ _ _ => (pg_name (i := 2) nd rfl (by first | exact .inl rfl | exact .inr rfl))) (fun _ _ _ _ _ => bts_nil) (fun _ _ _ _ _ => (be_ix rfl hu (be_name 2) be_int (fun _ _ => rfl))) tg_name (by decide))) tg_name (by decide))))
def mb_holds_bound (fu : Nat) : SM := (sSeq (sSet 3 (eOp subD (eCB lenD (rCons (eName 0) aNil)) (eC (.int 1)))) (sSeq (sSet 4 (eOp mulD (eName 2) (eName 1))) (sSeq (sSet 5 (eC (.int 1))) (sSeq (sFor (iArg (fun ds => if ds.length = 1 then rngO ds else none) (aCons (eName 3) aNil)) (tgN 6) (sSeq (sSet 4 (eOp addD (eName 4) (eOp mulD (eOp ixD (eName 0) (eName 6)) (eName 5)))) (sSet 5 (eOp mulD (eName 5) (eName 2))))) (sRet (eOp geD (eOp mulD (eOp ixD (eName 0) (eName 3)) (eName 5)) (eName 4)))))))
def mr_holds_bound (fu : Nat) : Mir := mirOf 7 (mb_holds_bound fu)
theorem sc_holds_bound : FnScope ["sizes", "beneath", "bound", "top", "others", "shift", "index"] ["sizes", "beneath", "bound"] (defScope (topS 19)) := ⟨rfl, rfl, rfl, by decide +kernel, rfl, by decide +kernel, by decide +kernel⟩
theorem c_holds_bound (fu : Nat) (KB : (KK w).In base) (GB : base.Ns mainGlobals mg) : Cal P w (KK w) mg base exC 1 "holds_bound" 3 (mr_holds_bound fu) :=
  cal_of KB GB (df_holds_bound w) sc_holds_bound 7 rfl rfl (fun _ _ _ _ _ _ us hl => match us, hl with | [_, _, _], _ => rfl)
  fun cdv A fr0 s H E f sa O H0 stt r0 hx => by
  have hu : (A.deeper (envOfC "holds_bound" (defScope (topS 19)) s.heap.objs.size f cdv)).units + 1 < cLine := by have := r0.un; omega
  have hu64 : (A.deeper (envOfC "holds_bound" (defScope (topS 19)) s.heap.objs.size f cdv)).units + 64 < cLine := by have := r0.un; omega
  have hu65 : (A.deeper (envOfC "holds_bound" (defScope (topS 19)) s.heap.objs.size f cdv)).units + 65 < cLine := by have := r0.un; omega
  have nd := sc_holds_bound.nd
  unfold mb_holds_bound
  exact (bss_cons (bs_set (ps_set (i := 3) nd rfl (by first | exact .inl rfl | exact .inr rfl) (be_op op_sub ops_sub (be_cb (pe_callB cr_len rfl (no_len KB GB) bb_len (br_cons (be_name 0) br_nil)) cs_len) be_int)) (fun _ _ _ h => h))
    (bss_cons (bs_set (ps_set (i := 4) nd rfl (by first | exact .inl rfl | exact .inr rfl) (be_op opr_mul ops_mul (be_name 2) (be_name 1))) (fun _ _ _ h => h))
    (bss_cons (bs_set (ps_set (i := 5) nd rfl (by first | exact .inl rfl | exact .inr rfl) be_int) (fun _ _ _ h => h))
    (bss_cons (bs_for (passes_of rfl) rfl (bi_rng1 rfl (no_range KB GB) (ba_cons (be_name 3) ba_nil)) (pg_name (i := 6) nd rfl (by first | exact .inl rfl | exact .inr rfl)) tg_name (bss_cons (bs_set (ps_set (i := 4) nd rfl (by first | exact .inl rfl | exact .inr rfl) (be_op opr_add ops_add (be_name 4) (be_op opr_mul ops_mul (be_ix rfl hu (be_name 0) (be_name 6) (fun _ _ => rfl)) (be_name 5)))) (fun _ _ _ h => h))
    (bss_one (bs_set (ps_set (i := 5) nd rfl (by first | exact .inl rfl | exact .inr rfl) (be_op opr_mul ops_mul (be_name 5) (be_name 2))) (fun _ _ _ h => h)))))
    (bss_one (bs_ret (be_cmp op_ge (ops_cmp _) (be_op opr_mul ops_mul (be_ix rfl hu (be_name 0) (be_name 3) (fun _ _ => rfl)) (be_name 5)) (be_name 4) (nomark _))))))))
def mb_least_bound (fu : Nat) : SM := (sSeq (sSet 1 (eLc (iSeq (eOp ixD (eName 0) (eC (.int 0)))) (tgN 5) bYes (eCB absD (rCons (eName 5) aNil)) [5])) (sSeq (sSet 2 (eC (.int 1))) (sSeq (sUn 1 (sWhile (bNot (tOf (eCall 3 (mr_holds_bound fu) (qCons (eName 1) (qCons (eOp ixD (eName 0) (eC (.int 1))) (qCons (eName 2) qNil)))))) (sSet 2 (eOp mulD (eC (.int 2)) (eName 2))) fu)) (sSeq (sSet 3 (eOp fdivD (eName 2) (eC (.int 2)))) (sSeq (sWhile (tOf (eOp gtD (eOp subD (eName 2) (eName 3)) (eC (.int 1)))) (sSeq (sSet 4 (eOp fdivD (eOp addD (eName 3) (eName 2)) (eC (.int 2)))) (sUn 1 (sIf (tOf (eCall 3 (mr_holds_bound fu) (qCons (eName 1) (qCons (eOp ixD (eName 0) (eC (.int 1))) (qCons (eName 4) qNil))))) (sSet 2 (eName 4)) (sSet 3 (eName 4))))) fu) (sRetV 2))))))
def mr_least_bound (fu : Nat) : Mir := mirOf 6 (mb_least_bound fu)
theorem sc_least_bound : FnScope ["poly", "sizes", "high", "low", "middle", "number"] ["poly"] (defScope (topS 20)) := ⟨rfl, rfl, rfl, by decide +kernel, rfl, by decide +kernel, by decide +kernel⟩
theorem c_least_bound (fu : Nat) (KB : (KK w).In base) (GB : base.Ns mainGlobals mg) : Cal P w (KK w) mg base exC 2 "least_bound" 1 (mr_least_bound fu) :=
  cal_of KB GB (df_least_bound w) sc_least_bound 6 rfl rfl (fun _ _ _ _ _ _ us hl => match us, hl with | [_], _ => rfl)
  fun cdv A fr0 s H E f sa O H0 stt r0 hx => by
  have hu : (A.deeper (envOfC "least_bound" (defScope (topS 20)) s.heap.objs.size f cdv)).units + 1 < cLine := by have := r0.un; omega
  have hu64 : (A.deeper (envOfC "least_bound" (defScope (topS 20)) s.heap.objs.size f cdv)).units + 64 < cLine := by have := r0.un; omega
  have hu65 : (A.deeper (envOfC "least_bound" (defScope (topS 20)) s.heap.objs.size f cdv)).units + 65 < cLine := by have := r0.un; omega
  have nd := sc_least_bound.nd
  unfold mb_least_bound
  exact (bss_cons (by first | exact bs_set (ps_set (i := 1) nd rfl (by first | exact .inl rfl | exact .inr rfl) (be_lc rfl nd (bi_seq rfl (be_ix rfl hu (be_name 0) be_int (fun _ _ => rfl))) (own := [("number", 5)]) (blkOk_by (by rfl)) (fun _ _ _ _ _ => (pg_name (i := 5) nd rfl (by first | exact .inl rfl | exact .inr rfl))) (fun _ _ _ _ _ => bts_nil) (fun _ _ _ _ _ => (be_cb (pe_callB call_abs rfl (no_abs KB GB) bb_abs (br_cons (be_name 5) br_nil)) cs_abs)) tg_name (by decide))) (fun _ _ _ h => h) | exact bs_setLc (i := 1) rfl nd rfl rfl rfl (bi_seq rfl (be_ix rfl hu (be_name 0) be_int (fun _ _ => rfl))) (own := [("number", 5)]) (blkOk_by (by rfl)) (fun _ _ _ _ _ => (pg_name (i := 5) nd rfl (by first | exact .inl rfl | exact .inr rfl))) (fun _ _ _ _ _ => bts_nil) (fun _ _ _ _ _ => (be_cb (pe_callB call_abs rfl (no_abs KB GB) bb_abs (br_cons (be_name 5) br_nil)) cs_abs)) tg_name (by decide))
    (bss_cons (bs_set (ps_set (i := 2) nd rfl (by first | exact .inl rfl | exact .inr rfl) be_int) (fun _ _ _ h => h))
    (bss_cons (bs_un (i := 1) (bs_while fu (passes_of rfl) (bt_not (bt_val (bc (c_holds_bound fu KB GB) r0 (by decide) hx rfl rfl rfl (bq_cons (be_name 1) (bq_cons (be_ix rfl hu (be_name 0) be_int (fun _ _ => rfl)) (bq_cons (be_name 2) bq_nil)))))) (bss_one (bs_set (ps_set (i := 2) nd rfl (by first | exact .inl rfl | exact .inr rfl) (be_op opr_mul ops_mul be_int (be_name 2))) (fun _ _ _ h => h)))))
    (bss_cons (bs_set (ps_set (i := 3) nd rfl (by first | exact .inl rfl | exact .inr rfl) (be_op op_fdivZ ops_fdiv (be_name 2) be_int)) (fun _ _ _ h => h))
    (bss_cons (bs_while fu (passes_of rfl) (bt_cmp op_gt (ops_cmp _) (be_op op_sub ops_sub (be_name 2) (be_name 3)) be_int (nomark _)) (bss_cons (bs_set (ps_set (i := 4) nd rfl (by first | exact .inl rfl | exact .inr rfl) (be_op op_fdivZ ops_fdiv (be_op opr_add ops_add (be_name 3) (be_name 2)) be_int)) (fun _ _ _ h => h))
    (bss_one (bs_un (i := 1) (bs_if (bt_val (bc (c_holds_bound fu KB GB) r0 (by decide) hx rfl rfl rfl (bq_cons (be_name 1) (bq_cons (be_ix rfl hu (be_name 0) be_int (fun _ _ => rfl)) (bq_cons (be_name 4) bq_nil))))) (bss_one (bs_set (ps_set (i := 2) nd rfl (by first | exact .inl rfl | exact .inr rfl) (be_name 4)) (fun _ _ _ h => h))) (bss_one (bs_set (ps_set (i := 3) nd rfl (by first | exact .inl rfl | exact .inr rfl) (be_name 4)) (fun _ _ _ h => h))))))))
    (bss_one (bs_retV (i := 2))))))))
def mb_reduced (fu : Nat) : SM := (sSeq (sSet 2 (eCB lenD (rCons (eName 0) aNil))) (sSeq (sWhile (bAnd (tOf (eOp gtD (eName 2) (eC (.int 0)))) (tOf (eOp eqD (eOp ixD (eName 0) (eOp subD (eName 2) (eC (.int 1)))) (eC (.int 0))))) (sSet 2 (eOp subD (eName 2) (eC (.int 1)))) fu) (sSeq (sSet 3 (eCB gcdD (rCons (eName 1) (rCons (eC (.int 0)) aNil)))) (sSeq (sFor (iSeq (eSl (eName 0) none (some (eName 2)))) (tgN 4) (sSet 3 (eCB gcdD (rCons (eName 3) (rCons (eName 4) aNil))))) (sSeq (sIf (tOf (eOp ltD (eName 1) (eC (.int 0)))) (sSet 3 (eUn negD (eName 3))) sNext) (sRet (eTup (aCons (eLc (iSeq (eSl (eName 0) none (some (eName 2)))) (tgN 4) bYes (eOp fdivD (eName 4) (eName 3)) [4]) (aCons (eOp fdivD (eName 1) (eName 3)) aNil)))))))))
def mr_reduced (fu : Nat) : Mir := mirOf 5 (mb_reduced fu)
theorem sc_reduced : FnScope ["numbers", "below", "many", "whole", "number"] ["numbers", "below"] (defScope (topS 16)) := ⟨rfl, rfl, rfl, by decide +kernel, rfl, by decide +kernel, by decide +kernel⟩
theorem c_reduced (fu : Nat) (KB : (KK w).In base) (GB : base.Ns mainGlobals mg) : Cal P w (KK w) mg base exC 1 "reduced" 2 (mr_reduced fu) :=
  cal_of KB GB (df_reduced w) sc_reduced 5 rfl rfl (fun _ _ _ _ _ _ us hl => match us, hl with | [_, _], _ => rfl)
  fun cdv A fr0 s H E f sa O H0 stt r0 hx => by
  have hu : (A.deeper (envOfC "reduced" (defScope (topS 16)) s.heap.objs.size f cdv)).units + 1 < cLine := by have := r0.un; omega
  have hu64 : (A.deeper (envOfC "reduced" (defScope (topS 16)) s.heap.objs.size f cdv)).units + 64 < cLine := by have := r0.un; omega
  have hu65 : (A.deeper (envOfC "reduced" (defScope (topS 16)) s.heap.objs.size f cdv)).units + 65 < cLine := by have := r0.un; omega
  have nd := sc_reduced.nd
  unfold mb_reduced
  exact (bss_cons (bs_set (ps_set (i := 2) nd rfl (by first | exact .inl rfl | exact .inr rfl) (be_cb (pe_callB cr_len rfl (no_len KB GB) bb_len (br_cons (be_name 0) br_nil)) cs_len)) (fun _ _ _ h => h))
    (bss_cons (bs_while fu (passes_of rfl) (bt_w (bw_and (bt_cmp op_gt (ops_cmp _) (be_name 2) be_int (nomark _)) (bw_and1 (bt_cmp (op_eqD hu64) ops_eq (be_ix rfl hu (be_name 0) (be_op op_sub ops_sub (be_name 2) be_int) (fun _ _ => rfl)) be_int (nomark _))))) (bss_one (bs_set (ps_set (i := 2) nd rfl (by first | exact .inl rfl | exact .inr rfl) (be_op op_sub ops_sub (be_name 2) be_int)) (fun _ _ _ h => h))))
    (bss_cons (bs_set (ps_set (i := 3) nd rfl (by first | exact .inl rfl | exact .inr rfl) (be_cb (pe_callBfun cr_gcd rfl (gb_of KB GB) (br_cons (be_name 1) (br_cons be_int br_nil))) cs_gcd)) (fun _ _ _ h => h))
    (bss_cons (bs_for (passes_of rfl) rfl (bi_seq rfl (be_slice rfl (be_name 0) bo_none (bo_some (be_name 2)))) (pg_name (i := 4) nd rfl (by first | exact .inl rfl | exact .inr rfl)) tg_name (bss_one (bs_set (ps_set (i := 3) nd rfl (by first | exact .inl rfl | exact .inr rfl) (be_cb (pe_callBfun cr_gcd rfl (gb_of KB GB) (br_cons (be_name 3) (br_cons (be_name 4) br_nil))) cs_gcd)) (fun _ _ _ h => h))))
    (bss_cons (bs_if (bt_cmp op_lt (ops_cmp _) (be_name 1) be_int (nomark _)) (bss_one (bs_set (ps_set (i := 3) nd rfl (by first | exact .inl rfl | exact .inr rfl) (be_neg (be_name 3))) (fun _ _ _ h => h))) bss_nil)
    (bss_one (bs_ret (be_tup (ba_cons (be_lc rfl nd (bi_seq rfl (be_slice rfl (be_name 0) bo_none (bo_some (be_name 2)))) (own := [("number", 4)]) (blkOk_by (by rfl)) (fun _ _ _ _ _ => (pg_name (i := 4) nd rfl (by first | exact .inl rfl | exact .inr rfl))) (fun _ _ _ _ _ => bts_nil) (fun _ _ _ _ _ => (be_op op_fdivZ ops_fdiv (be_name 4) (be_name 3))) tg_name (by decide)) (ba_cons (be_op op_fdivZ ops_fdiv (be_name 1) (be_name 3)) ba_nil))))))))))
def mb_as_poly (fu : Nat) : SM := (sSeq (sSet 1 (eC (.int 1))) (sSeq (sFor (iSeq (eName 0)) (tgN 2) (sSet 1 (eOp fdivD (eOp mulD (eName 1) (eOp ixD (eName 2) (eC (.int 1)))) (eCB gcdD (rCons (eName 1) (rCons (eOp ixD (eName 2) (eC (.int 1))) aNil)))))) (sRet (eCall 2 (mr_reduced fu) (qCons (eLc (iSeq (eName 0)) (tgN 2) bYes (eOp mulD (eOp ixD (eName 2) (eC (.int 0))) (eOp fdivD (eName 1) (eOp ixD (eName 2) (eC (.int 1))))) [2]) (qCons (eName 1) qNil))))))
def mr_as_poly (fu : Nat) : Mir := mirOf 3 (mb_as_poly fu)
theorem sc_as_poly : FnScope ["step", "below", "number"] ["step"] (defScope (topS 17)) := ⟨rfl, rfl, rfl, by decide +kernel, rfl, by decide +kernel, by decide +kernel⟩
theorem c_as_poly (fu : Nat) (KB : (KK w).In base) (GB : base.Ns mainGlobals mg) : Cal P w (KK w) mg base exC 2 "as_poly" 1 (mr_as_poly fu) :=
  cal_of KB GB (df_as_poly w) sc_as_poly 3 rfl rfl (fun _ _ _ _ _ _ us hl => match us, hl with | [_], _ => rfl)
  fun cdv A fr0 s H E f sa O H0 stt r0 hx => by
  have hu : (A.deeper (envOfC "as_poly" (defScope (topS 17)) s.heap.objs.size f cdv)).units + 1 < cLine := by have := r0.un; omega
  have hu64 : (A.deeper (envOfC "as_poly" (defScope (topS 17)) s.heap.objs.size f cdv)).units + 64 < cLine := by have := r0.un; omega
  have hu65 : (A.deeper (envOfC "as_poly" (defScope (topS 17)) s.heap.objs.size f cdv)).units + 65 < cLine := by have := r0.un; omega
  have nd := sc_as_poly.nd
  unfold mb_as_poly
  exact (bss_cons (bs_set (ps_set (i := 1) nd rfl (by first | exact .inl rfl | exact .inr rfl) be_int) (fun _ _ _ h => h))
    (bss_cons (bs_for (passes_of rfl) rfl (bi_seq rfl (be_name 0)) (pg_name (i := 2) nd rfl (by first | exact .inl rfl | exact .inr rfl)) tg_name (bss_one (bs_set (ps_set (i := 1) nd rfl (by first | exact .inl rfl | exact .inr rfl) (be_op op_fdivZ ops_fdiv (be_op opr_mul ops_mul (be_name 1) (be_ix rfl hu (be_name 2) be_int (fun _ _ => rfl))) (be_cb (pe_callBfun cr_gcd rfl (gb_of KB GB) (br_cons (be_name 1) (br_cons (be_ix rfl hu (be_name 2) be_int (fun _ _ => rfl)) br_nil))) cs_gcd))) (fun _ _ _ h => h))))
    (bss_one (bs_ret (bc (c_reduced fu KB GB) r0 (by decide) hx rfl rfl rfl (bq_cons (be_lc rfl nd (bi_seq rfl (be_name 0)) (own := [("number", 2)]) (blkOk_by (by rfl)) (fun _ _ _ _ _ => (pg_name (i := 2) nd rfl (by first | exact .inl rfl | exact .inr rfl))) (fun _ _ _ _ _ => bts_nil) (fun _ _ _ _ _ => (be_op opr_mul ops_mul (be_ix rfl hu (be_name 2) be_int (fun _ _ => rfl)) (be_op op_fdivZ ops_fdiv (be_name 1) (be_ix rfl hu (be_name 2) be_int (fun _ _ => rfl))))) tg_name (by decide)) (bq_cons (be_name 1) bq_nil)))))))
def mb_bound_of (fu : Nat) : SM := (sRet (eCB maxLD (rCons (eLc (iSeq (eName 0)) (tgN 1) bYes (eCall 1 (mr_least_bound fu) (qCons (eCall 1 (mr_as_poly fu) (qCons (eName 1) qNil)) qNil)) [1]) aNil)))
def mr_bound_of (fu : Nat) : Mir := mirOf 2 (mb_bound_of fu)
theorem sc_bound_of : FnScope ["steps", "step"] ["steps"] (defScope (topS 29)) := ⟨rfl, rfl, rfl, by decide +kernel, rfl, by decide +kernel, by decide +kernel⟩
theorem c_bound_of (fu : Nat) (KB : (KK w).In base) (GB : base.Ns mainGlobals mg) : Cal P w (KK w) mg base exC 3 "bound_of" 1 (mr_bound_of fu) :=
  cal_of KB GB (df_bound_of w) sc_bound_of 2 rfl rfl (fun _ _ _ _ _ _ us hl => match us, hl with | [_], _ => rfl)
  fun cdv A fr0 s H E f sa O H0 stt r0 hx => by
  have hu : (A.deeper (envOfC "bound_of" (defScope (topS 29)) s.heap.objs.size f cdv)).units + 1 < cLine := by have := r0.un; omega
  have hu64 : (A.deeper (envOfC "bound_of" (defScope (topS 29)) s.heap.objs.size f cdv)).units + 64 < cLine := by have := r0.un; omega
  have hu65 : (A.deeper (envOfC "bound_of" (defScope (topS 29)) s.heap.objs.size f cdv)).units + 65 < cLine := by have := r0.un; omega
  have nd := sc_bound_of.nd
  unfold mb_bound_of
  exact (bss_one (bs_ret (be_cb (pe_callB (cr_max rfl) rfl (no_max KB GB) bb_max (br_cons (be_lc rfl nd (bi_seq rfl (be_name 0)) (own := [("step", 1)]) (blkOk_by (by rfl)) (fun _ _ _ _ _ => (pg_name (i := 1) nd rfl (by first | exact .inl rfl | exact .inr rfl))) (fun _ _ _ _ _ => bts_nil) (fun _ _ _ _ _ => (bc (c_least_bound fu KB GB) r0 (by decide) passF rfl rfl rfl (bq_cons (bc (c_as_poly fu KB GB) r0 (by decide) passF rfl rfl rfl (bq_cons (be_name 1) bq_nil)) bq_nil))) tg_name (by decide)) br_nil)) cs_maxL)))
def mb_asked_of (fu : Nat) : SM := (sSeq (sExpr (eCall 1 (mr_need_choices fu) (qCons (eName 0) qNil))) (sSeq (sSet 3 (eCall 1 (mr_need_whole fu) (qCons (eName 1) qNil))) (sSeq (sSet 4 (eCall 1 (mr_need_whole fu) (qCons (eName 2) qNil))) (sRet (eTup (aCons (eCall 1 (mr_whole_numbers fu) (qCons (eName 0) qNil)) (aCons (eName 3) (aCons (eName 4) (aCons (eCB max2D (rCons (eCall 1 (mr_bound_of fu) (qCons (eName 0) qNil)) (rCons (eCB absD (rCons (eName 4) aNil)) aNil))) aNil)))))))))
def mr_asked_of (fu : Nat) : Mir := mirOf 5 (mb_asked_of fu)
theorem sc_asked_of : FnScope ["steps", "start", "goal", "near", "far"] ["steps", "start", "goal"] (defScope (topS 31)) := ⟨rfl, rfl, rfl, by decide +kernel, rfl, by decide +kernel, by decide +kernel⟩
theorem c_asked_of (fu : Nat) (KB : (KK w).In base) (GB : base.Ns mainGlobals mg) : Cal P w (KK w) mg base exC 6 "asked_of" 3 (mr_asked_of fu) :=
  cal_of KB GB (df_asked_of w) sc_asked_of 5 rfl rfl (fun _ _ _ _ _ _ us hl => match us, hl with | [_, _, _], _ => rfl)
  fun cdv A fr0 s H E f sa O H0 stt r0 hx => by
  have hu : (A.deeper (envOfC "asked_of" (defScope (topS 31)) s.heap.objs.size f cdv)).units + 1 < cLine := by have := r0.un; omega
  have hu64 : (A.deeper (envOfC "asked_of" (defScope (topS 31)) s.heap.objs.size f cdv)).units + 64 < cLine := by have := r0.un; omega
  have hu65 : (A.deeper (envOfC "asked_of" (defScope (topS 31)) s.heap.objs.size f cdv)).units + 65 < cLine := by have := r0.un; omega
  have nd := sc_asked_of.nd
  unfold mb_asked_of
  exact (bss_cons (bs_expr (bc (c_need_choices fu KB GB) r0 (by decide) hx rfl rfl rfl (bq_cons (be_name 0) bq_nil)))
    (bss_cons (bs_set (ps_set (i := 3) nd rfl (by first | exact .inl rfl | exact .inr rfl) (bc (c_need_whole fu KB GB) r0 (by decide) hx rfl rfl rfl (bq_cons (be_name 1) bq_nil))) (fun _ _ _ h => h))
    (bss_cons (bs_set (ps_set (i := 4) nd rfl (by first | exact .inl rfl | exact .inr rfl) (bc (c_need_whole fu KB GB) r0 (by decide) hx rfl rfl rfl (bq_cons (be_name 2) bq_nil))) (fun _ _ _ h => h))
    (bss_one (bs_ret (be_tup (ba_cons (bc (c_whole_numbers fu KB GB) r0 (by decide) hx rfl rfl rfl (bq_cons (be_name 0) bq_nil)) (ba_cons (be_name 3) (ba_cons (be_name 4) (ba_cons (be_cb (pe_callB (call_max2 rfl) rfl (no_max KB GB) bb_max (br_cons (bc (c_bound_of fu KB GB) r0 (by decide) hx rfl rfl rfl (bq_cons (be_name 0) bq_nil)) (br_cons (be_cb (pe_callB call_abs rfl (no_abs KB GB) bb_abs (br_cons (be_name 4) br_nil)) cs_abs) br_nil))) cs_max2) ba_nil))))))))))
def mb_check_few (fu : Nat) : SM := (sIf (tOf (eOp gtD (eOp addD (eOp mulD (eC (.int 2)) (eName 0)) (eC (.int 1))) (eC (.int 2000)))) sBad sNext)
def mr_check_few (fu : Nat) : Mir := mirOf 1 (mb_check_few fu)
theorem sc_check_few : FnScope ["bound"] ["bound"] (defScope (topS 25)) := ⟨rfl, rfl, rfl, by decide +kernel, rfl, by decide +kernel, by decide +kernel⟩
theorem c_check_few (fu : Nat) (KB : (KK w).In base) (GB : base.Ns mainGlobals mg) : Cal P w (KK w) mg base exC 1 "check_few" 1 (mr_check_few fu) :=
  cal_of KB GB (df_check_few w) sc_check_few 1 rfl rfl (fun _ _ _ _ _ _ us hl => match us, hl with | [_], _ => rfl)
  fun cdv A fr0 s H E f sa O H0 stt r0 hx => by
  have hu : (A.deeper (envOfC "check_few" (defScope (topS 25)) s.heap.objs.size f cdv)).units + 1 < cLine := by have := r0.un; omega
  have hu64 : (A.deeper (envOfC "check_few" (defScope (topS 25)) s.heap.objs.size f cdv)).units + 64 < cLine := by have := r0.un; omega
  have hu65 : (A.deeper (envOfC "check_few" (defScope (topS 25)) s.heap.objs.size f cdv)).units + 65 < cLine := by have := r0.un; omega
  have nd := sc_check_few.nd
  unfold mb_check_few
  exact (bss_one (bs_if (bt_cmp op_gt (ops_cmp _) (be_op opr_add ops_add (be_op opr_mul ops_mul be_int (be_name 0)) be_int) (be_globI rfl (tk_MOST_LOOKED_AT KB GB)) (nomark _)) (bss_one bs_bad) bss_nil))
def mb_led (fu : Nat) : SM := (sSeq (sSet 2 (eC (.int 0))) (sSeq (sFor (iRev (eName 0)) (tgN 3) (sSet 2 (eOp addD (eOp mulD (eName 2) (eName 1)) (eName 3)))) (sRetV 2)))
def mr_led (fu : Nat) : Mir := mirOf 4 (mb_led fu)
theorem sc_led : FnScope ["numbers", "here", "found", "number"] ["numbers", "here"] (defScope (topS 24)) := ⟨rfl, rfl, rfl, by decide +kernel, rfl, by decide +kernel, by decide +kernel⟩
theorem c_led (fu : Nat) (KB : (KK w).In base) (GB : base.Ns mainGlobals mg) : Cal P w (KK w) mg base exC 1 "led" 2 (mr_led fu) :=
  cal_of KB GB (df_led w) sc_led 4 rfl rfl (fun _ _ _ _ _ _ us hl => match us, hl with | [_, _], _ => rfl)
  fun cdv A fr0 s H E f sa O H0 stt r0 hx => by
  have hu : (A.deeper (envOfC "led" (defScope (topS 24)) s.heap.objs.size f cdv)).units + 1 < cLine := by have := r0.un; omega
  have hu64 : (A.deeper (envOfC "led" (defScope (topS 24)) s.heap.objs.size f cdv)).units + 64 < cLine := by have := r0.un; omega
  have hu65 : (A.deeper (envOfC "led" (defScope (topS 24)) s.heap.objs.size f cdv)).units + 65 < cLine := by have := r0.un; omega
  have nd := sc_led.nd
  unfold mb_led
  exact (bss_cons (bs_set (ps_set (i := 2) nd rfl (by first | exact .inl rfl | exact .inr rfl) be_int) (fun _ _ _ h => h))
    (bss_cons (bs_for (passes_of rfl) rfl (bi_rev rfl rfl (no_reversed KB GB) (be_name 0)) (pg_name (i := 3) nd rfl (by first | exact .inl rfl | exact .inr rfl)) tg_name (bss_one (bs_set (ps_set (i := 2) nd rfl (by first | exact .inl rfl | exact .inr rfl) (be_op opr_add ops_add (be_op opr_mul ops_mul (be_name 2) (be_name 1)) (be_name 3))) (fun _ _ _ h => h))))
    (bss_one (bs_retV (i := 2)))))
def mb_ways_from (fu : Nat) : SM := (sSeq (sSet 4 eDk0) (sSeq (sIf (tOf (eOp gtD (eCB absD (rCons (eName 2) aNil)) (eName 1))) (sRetV 4) sNext) (sSeq (sStore 4 (eName 2) (eC .non)) (sSeq (sSet 5 (eLst (aCons (eName 2) aNil))) (sSeq (sSet 6 (eC (.int 0))) (sSeq (sWhile (bAnd (tOf (eOp ltD (eName 6) (eCB lenD (rCons (eName 5) aNil)))) (tOf (eOp notinO (eName 3) (eName 4)))) (sSeq (sSet 7 (eOp ixD (eName 5) (eName 6))) (sSeq (sSet 6 (eOp addD (eName 6) (eC (.int 1)))) (sFor (iArg enumO (aCons (eName 0) aNil)) (tgT [8, 9]) (sSeq (sSet 10 (eCall 2 (mr_led fu) (qCons (eName 9) (qCons (eName 7) qNil)))) (sIf (bAnd (tOf (eOp leD (eCB absD (rCons (eName 10) aNil)) (eName 1))) (tOf (eOp notinO (eName 10) (eName 4)))) (sSeq (sStore 4 (eName 10) (eTup (aCons (eName 7) (aCons (eName 8) aNil)))) (sMeth 5 appD (aCons (eName 10) aNil) none)) sNext))))) fu) (sRetV 4)))))))
def mr_ways_from (fu : Nat) : Mir := mirOf 11 (mb_ways_from fu)
theorem sc_ways_from : FnScope ["rows", "bound", "start", "goal", "found", "line", "place", "here", "index", "row", "later"] ["rows", "bound", "start", "goal"] (defScope (topS 32)) := ⟨rfl, rfl, rfl, by decide +kernel, rfl, by decide +kernel, by decide +kernel⟩
theorem c_ways_from (fu : Nat) (KB : (KK w).In base) (GB : base.Ns mainGlobals mg) : Cal P w (KK w) mg base exC 2 "ways_from" 4 (mr_ways_from fu) :=
  cal_of KB GB (df_ways_from w) sc_ways_from 11 rfl rfl (fun _ _ _ _ _ _ us hl => match us, hl with | [_, _, _, _], _ => rfl)
  fun cdv A fr0 s H E f sa O H0 stt r0 hx => by
  have hu : (A.deeper (envOfC "ways_from" (defScope (topS 32)) s.heap.objs.size f cdv)).units + 1 < cLine := by have := r0.un; omega
  have hu64 : (A.deeper (envOfC "ways_from" (defScope (topS 32)) s.heap.objs.size f cdv)).units + 64 < cLine := by have := r0.un; omega
  have hu65 : (A.deeper (envOfC "ways_from" (defScope (topS 32)) s.heap.objs.size f cdv)).units + 65 < cLine := by have := r0.un; omega
  have nd := sc_ways_from.nd
  unfold mb_ways_from
  exact (bss_cons (bs_set (ps_set (i := 4) nd rfl (by first | exact .inl rfl | exact .inr rfl) be_dk0) (fun _ _ _ h => h))
    (bss_cons (bs_if (bt_cmp op_gt (ops_cmp _) (be_cb (pe_callB call_abs rfl (no_abs KB GB) bb_abs (br_cons (be_name 2) br_nil)) cs_abs) (be_name 1) (nomark _)) (bss_one (bs_retV (i := 4))) bss_nil)
    (bss_cons (bs_store (j := 4) (ps_asg be_non (pg_sub (pe_var (i := 4) rfl (by first | exact Or.inl rfl | exact Or.inr (Or.inl rfl))) (be_name 2) (set_B hu))))
    (bss_cons (bs_set (ps_set (i := 5) nd rfl (by first | exact .inl rfl | exact .inr rfl) (be_lst (ba_cons (be_name 2) ba_nil))) (fun _ _ _ h => h))
    (bss_cons (bs_set (ps_set (i := 6) nd rfl (by first | exact .inl rfl | exact .inr rfl) be_int) (fun _ _ _ h => h))
    (bss_cons (bs_while fu (passes_of rfl) (bt_w (bw_and (bt_cmp op_lt (ops_cmp _) (be_name 6) (be_cb (pe_callB cr_len rfl (no_len KB GB) bb_len (br_cons (be_name 5) br_nil)) cs_len) (nomark _)) (bw_and1 (bt_cmp (opr_notin hu65) ops_notin (be_name 3) (be_name 4) rfl)))) (bss_cons (bs_set (ps_set (i := 7) nd rfl (by first | exact .inl rfl | exact .inr rfl) (be_ix rfl hu (be_name 5) (be_name 6) (fun _ _ => rfl))) (fun _ _ _ h => h))
    (bss_cons (bs_set (ps_set (i := 6) nd rfl (by first | exact .inl rfl | exact .inr rfl) (be_op opr_add ops_add (be_name 6) be_int)) (fun _ _ _ h => h))
    (bss_one (bs_for (passes_of rfl) rfl (bi_enum rfl rfl (no_enumerate KB GB) (ba_cons (be_name 0) ba_nil)) (pg_tup rfl (pgs_cons (pg_name (i := 8) nd rfl (by first | exact .inl rfl | exact .inr rfl)) (pgs_cons (pg_name (i := 9) nd rfl (by first | exact .inl rfl | exact .inr rfl)) pgs_nil))) (tg_tup (is := [8, 9]) rfl rfl) (bss_cons (bs_set (ps_set (i := 10) nd rfl (by first | exact .inl rfl | exact .inr rfl) (bc (c_led fu KB GB) r0 (by decide) hx rfl rfl rfl (bq_cons (be_name 9) (bq_cons (be_name 7) bq_nil)))) (fun _ _ _ h => h))
    (bss_one (bs_if (bt_w (bw_and (bt_cmp op_le (ops_cmp _) (be_cb (pe_callB call_abs rfl (no_abs KB GB) bb_abs (br_cons (be_name 10) br_nil)) cs_abs) (be_name 1) (nomark _)) (bw_and1 (bt_cmp (opr_notin hu65) ops_notin (be_name 10) (be_name 4) rfl)))) (bss_cons (bs_store (j := 4) (ps_asg (be_tup (ba_cons (be_name 7) (ba_cons (be_name 8) ba_nil))) (pg_sub (pe_var (i := 4) rfl (by first | exact Or.inl rfl | exact Or.inr (Or.inl rfl))) (be_name 10) (set_B hu))))
    (bss_one (bs_meth (j := 5) rfl (ps_expr (pe_bm PySem.F.plainAttrs_list PySem.F.slot_list_append PySem.F.type_list_append mt_append (pe_var (i := 5) rfl (by first | exact Or.inl rfl | exact Or.inr (Or.inl rfl))) (ba_cons (be_name 10) ba_nil))) ms_app))) bss_nil))))))))
    (bss_one (bs_retV (i := 4)))))))))
def mb_word_to (fu : Nat) : SM := (sSeq (sPar 2 3 (eLst aNil) (eName 1)) (sSeq (sWhile (tOf (eOp notD (eOp ixD (eName 0) (eName 3)) (eC .non))) (sSeq (sTup [3, 4] (eOp ixD (eName 0) (eName 3))) (sMeth 2 appD (aCons (eName 4) aNil) none)) fu) (sSeq (sMeth 2 reverseD aNil none) (sRet (eCB tupleD (rCons (eName 2) aNil))))))
def mr_word_to (fu : Nat) : Mir := mirOf 5 (mb_word_to fu)
theorem sc_word_to : FnScope ["ways", "goal", "found", "here", "index"] ["ways", "goal"] (defScope (topS 33)) := ⟨rfl, rfl, rfl, by decide +kernel, rfl, by decide +kernel, by decide +kernel⟩
theorem c_word_to (fu : Nat) (KB : (KK w).In base) (GB : base.Ns mainGlobals mg) : Cal P w (KK w) mg base exC 1 "word_to" 2 (mr_word_to fu) :=
  cal_of KB GB (df_word_to w) sc_word_to 5 rfl rfl (fun _ _ _ _ _ _ us hl => match us, hl with | [_, _], _ => rfl)
  fun cdv A fr0 s H E f sa O H0 stt r0 hx => by
  have hu : (A.deeper (envOfC "word_to" (defScope (topS 33)) s.heap.objs.size f cdv)).units + 1 < cLine := by have := r0.un; omega
  have hu64 : (A.deeper (envOfC "word_to" (defScope (topS 33)) s.heap.objs.size f cdv)).units + 64 < cLine := by have := r0.un; omega
  have hu65 : (A.deeper (envOfC "word_to" (defScope (topS 33)) s.heap.objs.size f cdv)).units + 65 < cLine := by have := r0.un; omega
  have nd := sc_word_to.nd
  unfold mb_word_to
  exact (bss_cons (bs_par (i := 2) (j := 3) rfl nd rfl rfl (by decide) rfl rfl (be_lst ba_nil) (be_name 1))
    (bss_cons (bs_while fu (passes_of rfl) (bt_cmp op_notN ops_isnot (be_ix rfl hu (be_name 0) (be_name 3) (fun _ _ => rfl)) be_non (nomark _)) (bss_cons (bs_tup (is := [3, 4]) rfl (ps_asg (be_ix rfl hu (be_name 0) (be_name 3) (fun _ _ => rfl)) (pg_tup rfl (pgs_cons (pg_name (i := 3) nd rfl (by first | exact .inl rfl | exact .inr rfl)) (pgs_cons (pg_name (i := 4) nd rfl (by first | exact .inl rfl | exact .inr rfl)) pgs_nil)))) rfl)
    (bss_one (bs_meth (j := 2) rfl (ps_expr (pe_bm PySem.F.plainAttrs_list PySem.F.slot_list_append PySem.F.type_list_append mt_append (pe_var (i := 2) rfl (by first | exact Or.inl rfl | exact Or.inr (Or.inl rfl))) (ba_cons (be_name 4) ba_nil))) ms_app))))
    (bss_cons (bs_meth0 (j := 2) rfl (ps_expr (pe_bm0 PySem.F.plainAttrs_list PySem.F.slot_list_reverse PySem.F.type_list_reverse mt_reverse (pe_var (i := 2) rfl (by first | exact Or.inl rfl | exact Or.inr (Or.inl rfl))))) ms_rev)
    (bss_one (bs_ret (be_cb (pe_callTy cr_tuple rfl (no_tuple KB GB) bb_tuple (br_cons (be_name 2) br_nil)) cs_tuple))))))
def mb_reach (fu : Nat) : SM := (sSeq (sTup [3, 4, 5, 6] (eCall 3 (mr_asked_of fu) (qCons (eName 0) (qCons (eName 1) (qCons (eName 2) qNil))))) (sSeq (sExpr (eCall 1 (mr_check_few fu) (qCons (eName 6) qNil))) (sSeq (sSet 7 (eCall 4 (mr_ways_from fu) (qCons (eName 3) (qCons (eName 6) (qCons (eName 4) (qCons (eName 5) qNil)))))) (sUn 7 (sRet (eIf (tOf (eOp inO (eName 5) (eName 7))) (eCall 2 (mr_word_to fu) (qCons (eName 7) (qCons (eName 5) qNil))) (eC .non)))))))
def mr_reach (fu : Nat) : Mir := mirOf 8 (mb_reach fu)
theorem sc_reach : FnScope ["steps", "start", "goal", "rows", "near", "far", "bound", "ways"] ["steps", "start", "goal"] (defScope (topS 34)) := ⟨rfl, rfl, rfl, by decide +kernel, rfl, by decide +kernel, by decide +kernel⟩
theorem ck_reach (fu : Nat) (KB : (KK w).In base) (GB : base.Ns mainGlobals mg) : CalK P w (KK w) mg base exC 7 "reach" ["steps", "start", "goal"] 3 (mr_reach fu) :=
  cal_ofK KB GB (df_reach w) sc_reach 8 rfl rfl (fun _ _ _ _ _ _ us hl => match us, hl with | [_, _, _], _ => rfl) (fun _ _ _ _ _ _ us hl => match us, hl with | [_, _, _], _ => rfl)
  fun cdv A fr0 s H E f sa O H0 stt r0 hx => by
  have hu : (A.deeper (envOfC "reach" (defScope (topS 34)) s.heap.objs.size f cdv)).units + 1 < cLine := by have := r0.un; omega
  have hu64 : (A.deeper (envOfC "reach" (defScope (topS 34)) s.heap.objs.size f cdv)).units + 64 < cLine := by have := r0.un; omega
  have hu65 : (A.deeper (envOfC "reach" (defScope (topS 34)) s.heap.objs.size f cdv)).units + 65 < cLine := by have := r0.un; omega
  have nd := sc_reach.nd
  unfold mb_reach
  exact (bss_cons (bs_tup (is := [3, 4, 5, 6]) rfl (ps_asg (bc (c_asked_of fu KB GB) r0 (by decide) hx rfl rfl rfl (bq_cons (be_name 0) (bq_cons (be_name 1) (bq_cons (be_name 2) bq_nil)))) (pg_tup rfl (pgs_cons (pg_name (i := 3) nd rfl (by first | exact .inl rfl | exact .inr rfl)) (pgs_cons (pg_name (i := 4) nd rfl (by first | exact .inl rfl | exact .inr rfl)) (pgs_cons (pg_name (i := 5) nd rfl (by first | exact .inl rfl | exact .inr rfl)) (pgs_cons (pg_name (i := 6) nd rfl (by first | exact .inl rfl | exact .inr rfl)) pgs_nil)))))) rfl)
    (bss_cons (bs_expr (bc (c_check_few fu KB GB) r0 (by decide) hx rfl rfl rfl (bq_cons (be_name 6) bq_nil)))
    (bss_cons (bs_set (ps_set (i := 7) nd rfl (by first | exact .inl rfl | exact .inr rfl) (bc (c_ways_from fu KB GB) r0 (by decide) hx rfl rfl rfl (bq_cons (be_name 3) (bq_cons (be_name 6) (bq_cons (be_name 4) (bq_cons (be_name 5) bq_nil)))))) (fun _ _ _ h => h))
    (bss_one (bs_un (i := 7) (bs_ret (be_ifExp (bt_cmp (opr_in hu65) ops_in (be_name 5) (be_name 7) rfl) (bc (c_word_to fu KB GB) r0 (by decide) hx rfl rfl rfl (bq_cons (be_name 7) (bq_cons (be_name 5) bq_nil))) be_non)))))))
theorem c_reach (fu : Nat) (KB : (KK w).In base) (GB : base.Ns mainGlobals mg) : Cal P w (KK w) mg base exC 7 "reach" 3 (mr_reach fu) := (ck_reach fu KB GB).cal
def mb__law_mixed (fu : Nat) : SM := (sSeq (sSet 0 (eOp modD (eCB intD (rCons (eName 0) aNil)) (eC (.int 2147483647)))) (sRet (eOp modD (eOp mulD (eOp modD (eOp addD (eOp addD (eOp mulD (eName 0) (eOp addD (eC (.int 48271)) (eOp mulD (eOp mulD (eC (.int 2)) (eName 1)) (eName 1)))) (eOp mulD (eC (.int 69621)) (eName 1))) (eC (.int 11))) (eC (.int 2147483647))) (eC (.int 69621))) (eC (.int 2147483629)))))
def mr__law_mixed (fu : Nat) : Mir := mirOf 2 (mb__law_mixed fu)
theorem sc__law_mixed : FnScope ["_law_cell", "_law_k"] ["_law_cell", "_law_k"] (defScope (topS 36)) := ⟨rfl, rfl, rfl, by decide +kernel, rfl, by decide +kernel, by decide +kernel⟩
theorem c__law_mixed (fu : Nat) (KB : (KK w).In base) (GB : base.Ns mainGlobals mg) : Cal P w (KK w) mg base exC 1 "_law_mixed" 2 (mr__law_mixed fu) :=
  cal_of KB GB (df__law_mixed w) sc__law_mixed 2 rfl rfl (fun _ _ _ _ _ _ us hl => match us, hl with | [_, _], _ => rfl)
  fun cdv A fr0 s H E f sa O H0 stt r0 hx => by
  have hu : (A.deeper (envOfC "_law_mixed" (defScope (topS 36)) s.heap.objs.size f cdv)).units + 1 < cLine := by have := r0.un; omega
  have hu64 : (A.deeper (envOfC "_law_mixed" (defScope (topS 36)) s.heap.objs.size f cdv)).units + 64 < cLine := by have := r0.un; omega
  have hu65 : (A.deeper (envOfC "_law_mixed" (defScope (topS 36)) s.heap.objs.size f cdv)).units + 65 < cLine := by have := r0.un; omega
  have nd := sc__law_mixed.nd
  unfold mb__law_mixed
  exact (bss_cons (bs_set (ps_set (i := 0) nd rfl (by first | exact .inl rfl | exact .inr rfl) (be_op op_modN ops_mod (be_cb (pe_callTy call_int1 rfl (no_int KB GB) bb_int (br_cons (be_name 0) br_nil)) cs_int) be_int)) (fun _ _ _ h => h))
    (bss_one (bs_ret (be_op op_modN ops_mod (be_op opr_mul ops_mul (be_op op_modN ops_mod (be_op opr_add ops_add (be_op opr_add ops_add (be_op opr_mul ops_mul (be_name 0) (be_op opr_add ops_add be_int (be_op opr_mul ops_mul (be_op opr_mul ops_mul be_int (be_name 1)) (be_name 1)))) (be_op opr_mul ops_mul be_int (be_name 1))) be_int) be_int) be_int) be_int))))
def mb__law_draw (fu : Nat) : SM := (sSeq (sSet 2 (eStAt 0)) (sSeq (sStAt 0 (eOp addD (eName 2) (eC (.int 1)))) (sSeq (sSet 3 (eOp modD (eCB intD (rCons (eName 2) aNil)) (eStLen 0))) (sSeq (sSet 4 (eStLeft 0 (eName 3))) (sSeq (sIf (tOf (eOp gtD (eName 4) (eC (.int 0)))) (sSeq (sStLeft 0 (eName 3) (eOp fdivD (eName 4) (eName 1))) (sRet (eOp modD (eCB intD (rCons (eName 4) aNil)) (eName 1)))) sNext) (sSeq (sSet 5 (eCall 2 (mr__law_mixed fu) (qCons (eCall 2 (mr__law_mixed fu) (qCons (eStCell 0 (eName 3)) (qCons (eName 2) qNil))) (qCons (eOp addD (eC (.int 40)) (eName 2)) qNil)))) (sRet (eOp modD (eOp fdivD (eCB intD (rCons (eOp addD (eOp mulD (eName 5) (eC (.int 2147483647))) (eCall 2 (mr__law_mixed fu) (qCons (eName 5) (qCons (eOp addD (eC (.int 7)) (eName 2)) qNil)))) aNil)) (eC (.int 64))) (eName 1)))))))))
def mr__law_draw (fu : Nat) : Mir := mirOf 6 (mb__law_draw fu)
theorem sc__law_draw : FnScope ["_law_state", "_law_limit", "_law_at", "_law_place", "_law_left", "_law_number"] ["_law_state", "_law_limit"] (defScope (topS 38)) := ⟨rfl, rfl, rfl, by decide +kernel, rfl, by decide +kernel, by decide +kernel⟩
theorem c__law_draw (fu : Nat) (KB : (KK w).In base) (GB : base.Ns mainGlobals mg) : Cal P w (KK w) mg base exC 2 "_law_draw" 2 (mr__law_draw fu) :=
  cal_of KB GB (df__law_draw w) sc__law_draw 6 rfl rfl (fun _ _ _ _ _ _ us hl => match us, hl with | [_, _], _ => rfl)
  fun cdv A fr0 s H E f sa O H0 stt r0 hx => by
  have hu : (A.deeper (envOfC "_law_draw" (defScope (topS 38)) s.heap.objs.size f cdv)).units + 1 < cLine := by have := r0.un; omega
  have hu64 : (A.deeper (envOfC "_law_draw" (defScope (topS 38)) s.heap.objs.size f cdv)).units + 64 < cLine := by have := r0.un; omega
  have hu65 : (A.deeper (envOfC "_law_draw" (defScope (topS 38)) s.heap.objs.size f cdv)).units + 65 < cLine := by have := r0.un; omega
  have nd := sc__law_draw.nd
  unfold mb__law_draw
  exact (bss_cons (bs_set (ps_set (i := 2) nd rfl (by first | exact .inl rfl | exact .inr rfl) (be_stAt (raw_st (i := 0) hu rfl (Or.inl rfl)))) (fun _ _ _ h => h))
    (bss_cons (bs_stAt (ps_asg (be_op opr_add ops_add (be_name 2) be_int) (pg_sub (pe_var (i := 0) rfl (Or.inl rfl)) pe_str (set_B hu))))
    (bss_cons (bs_set (ps_set (i := 3) nd rfl (by first | exact .inl rfl | exact .inr rfl) (be_op op_modN ops_mod (be_cb (pe_callTy call_int1 rfl (no_int KB GB) bb_int (br_cons (be_name 2) br_nil)) cs_int) (be_stLen (pe_callB cr_len rfl (no_len KB GB) bb_len (pa_cons (raw_st (i := 0) hu rfl (Or.inl rfl)) pa_nil))))) (fun _ _ _ h => h))
    (bss_cons (bs_set (ps_set (i := 4) nd rfl (by first | exact .inl rfl | exact .inr rfl) (be_stLeft (pe_ix (ix_B hu) (raw_st (i := 0) hu rfl (Or.inl rfl)) (be_name 3) (fun _ _ => rfl)))) (fun _ _ _ h => h))
    (bss_cons (bs_if (bt_cmp op_gt (ops_cmp _) (be_name 4) be_int (nomark _)) (bss_cons (bs_stLeft (ps_asg (be_op op_fdivZ ops_fdiv (be_name 4) (be_name 1)) (pg_sub (raw_st (i := 0) hu rfl (Or.inl rfl)) (be_name 3) (set_B hu))))
    (bss_one (bs_ret (be_op op_modN ops_mod (be_cb (pe_callTy call_int1 rfl (no_int KB GB) bb_int (br_cons (be_name 4) br_nil)) cs_int) (be_name 1))))) bss_nil)
    (bss_cons (bs_set (ps_set (i := 5) nd rfl (by first | exact .inl rfl | exact .inr rfl) (bc (c__law_mixed fu KB GB) r0 (by decide) hx rfl rfl rfl (bq_cons (bc (c__law_mixed fu KB GB) r0 (by decide) hx rfl rfl rfl (bq_cons (be_stCell (pe_ix (ix_B hu) (raw_st (i := 0) hu rfl (Or.inl rfl)) (be_name 3) (fun _ _ => rfl))) (bq_cons (be_name 2) bq_nil))) (bq_cons (be_op opr_add ops_add be_int (be_name 2)) bq_nil)))) (fun _ _ _ h => h))
    (bss_one (bs_ret (be_op op_modN ops_mod (be_op op_fdivZ ops_fdiv (be_cb (pe_callTy call_int1 rfl (no_int KB GB) bb_int (br_cons (be_op opr_add ops_add (be_op opr_mul ops_mul (be_name 5) be_int) (bc (c__law_mixed fu KB GB) r0 (by decide) hx rfl rfl rfl (bq_cons (be_name 5) (bq_cons (be_op opr_add ops_add be_int (be_name 2)) bq_nil)))) br_nil)) cs_int) be_int) (be_name 1))))))))))
def mb__law_of (fu : Nat) : SM := (sRet (eOp ixD (eName 1) (eCall 2 (mr__law_draw fu) (qCons (eName 0) (qCons (eCB lenD (rCons (eName 1) aNil)) qNil)))))
def mr__law_of (fu : Nat) : Mir := mirOf 2 (mb__law_of fu)
theorem sc__law_of : FnScope ["_law_state", "_law_some"] ["_law_state", "_law_some"] (defScope (topS 39)) := ⟨rfl, rfl, rfl, by decide +kernel, rfl, by decide +kernel, by decide +kernel⟩
theorem c__law_of (fu : Nat) (KB : (KK w).In base) (GB : base.Ns mainGlobals mg) : Cal P w (KK w) mg base exC 3 "_law_of" 2 (mr__law_of fu) :=
  cal_of KB GB (df__law_of w) sc__law_of 2 rfl rfl (fun _ _ _ _ _ _ us hl => match us, hl with | [_, _], _ => rfl)
  fun cdv A fr0 s H E f sa O H0 stt r0 hx => by
  have hu : (A.deeper (envOfC "_law_of" (defScope (topS 39)) s.heap.objs.size f cdv)).units + 1 < cLine := by have := r0.un; omega
  have hu64 : (A.deeper (envOfC "_law_of" (defScope (topS 39)) s.heap.objs.size f cdv)).units + 64 < cLine := by have := r0.un; omega
  have hu65 : (A.deeper (envOfC "_law_of" (defScope (topS 39)) s.heap.objs.size f cdv)).units + 65 < cLine := by have := r0.un; omega
  have nd := sc__law_of.nd
  unfold mb__law_of
  exact (bss_one (bs_ret (be_ix rfl hu (be_name 1) (bc (c__law_draw fu KB GB) r0 (by decide) hx rfl rfl rfl (bq_cons (be_name 0) (bq_cons (be_cb (pe_callB cr_len rfl (no_len KB GB) bb_len (br_cons (be_name 1) br_nil)) cs_len) bq_nil))) (fun _ _ => rfl))))
def mb__law_choices (fu : Nat) : SM := (sSeq (sSet 1 (eTup aNil)) (sSeq (sFor (iArg (fun ds => if ds.length = 1 then rngO ds else none) (aCons (eOp addD (eC (.int 1)) (eCall 2 (mr__law_draw fu) (qCons (eName 0) (qCons (eC (.int 3)) qNil)))) aNil)) (tgN 2) (sSeq (sSet 3 (eCall 2 (mr__law_draw fu) (qCons (eName 0) (qCons (eC (.int 5)) qNil)))) (sSeq (sSet 4 (eCall 2 (mr__law_of fu) (qCons (eName 0) (qCons (eIf (tOf (eOp gtD (eName 3) (eC (.int 1)))) (eLst (aCons (eC (.int 1)) (aCons (eUn negD (eC (.int 1))) (aCons (eC (.int 2)) aNil)))) (eLst (aCons (eC (.int 2)) (aCons (eUn negD (eC (.int 2))) (aCons (eC (.int 3)) (aCons (eUn negD (eC (.int 3))) aNil)))))) qNil)))) (sSeq (sSet 5 (eLst (aCons (eTup (aCons (eOp subD (eCall 2 (mr__law_draw fu) (qCons (eName 0) (qCons (eC (.int 7)) qNil))) (eC (.int 3))) (aCons (eC (.int 1)) aNil))) aNil))) (sSeq (sIf (tOf (eOp gtD (eName 3) (eC (.int 1)))) (sMeth 5 appD (aCons (eTup (aCons (eOp subD (eCall 2 (mr__law_draw fu) (qCons (eName 0) (qCons (eC (.int 5)) qNil))) (eC (.int 2))) (aCons (eC (.int 1)) aNil))) aNil) none) sNext) (sSeq (sIf (tOf (eOp eqD (eName 3) (eC (.int 4)))) (sMeth 5 appD (aCons (eTup (aCons (eC (.int 0)) (aCons (eC (.int 1)) aNil))) aNil) none) sNext) (sSet 1 (eOp addD (eName 1) (eTup (aCons (eCB tupleD (rCons (eOp addD (eName 5) (eLst (aCons (eTup (aCons (eName 4) (aCons (eC (.int 1)) aNil))) aNil))) aNil)) aNil)))))))))) (sRetV 1)))
def mr__law_choices (fu : Nat) : Mir := mirOf 6 (mb__law_choices fu)
theorem sc__law_choices : FnScope ["_law_state", "_law_found", "_law_turn", "_law_pick", "_law_head", "_law_told"] ["_law_state"] (defScope (topS 48)) := ⟨rfl, rfl, rfl, by decide +kernel, rfl, by decide +kernel, by decide +kernel⟩
theorem c__law_choices (fu : Nat) (KB : (KK w).In base) (GB : base.Ns mainGlobals mg) : Cal P w (KK w) mg base exC 4 "_law_choices" 1 (mr__law_choices fu) :=
  cal_of KB GB (df__law_choices w) sc__law_choices 6 rfl rfl (fun _ _ _ _ _ _ us hl => match us, hl with | [_], _ => rfl)
  fun cdv A fr0 s H E f sa O H0 stt r0 hx => by
  have hu : (A.deeper (envOfC "_law_choices" (defScope (topS 48)) s.heap.objs.size f cdv)).units + 1 < cLine := by have := r0.un; omega
  have hu64 : (A.deeper (envOfC "_law_choices" (defScope (topS 48)) s.heap.objs.size f cdv)).units + 64 < cLine := by have := r0.un; omega
  have hu65 : (A.deeper (envOfC "_law_choices" (defScope (topS 48)) s.heap.objs.size f cdv)).units + 65 < cLine := by have := r0.un; omega
  have nd := sc__law_choices.nd
  unfold mb__law_choices
  exact (bss_cons (bs_set (ps_set (i := 1) nd rfl (by first | exact .inl rfl | exact .inr rfl) (be_tup ba_nil)) (fun _ _ _ h => h))
    (bss_cons (bs_for (passes_of rfl) rfl (bi_rng1 rfl (no_range KB GB) (ba_cons (be_op opr_add ops_add be_int (bc (c__law_draw fu KB GB) r0 (by decide) hx rfl rfl rfl (bq_cons (be_name 0) (bq_cons be_int bq_nil)))) ba_nil)) (pg_name (i := 2) nd rfl (by first | exact .inl rfl | exact .inr rfl)) tg_name (bss_cons (bs_set (ps_set (i := 3) nd rfl (by first | exact .inl rfl | exact .inr rfl) (bc (c__law_draw fu KB GB) r0 (by decide) hx rfl rfl rfl (bq_cons (be_name 0) (bq_cons be_int bq_nil)))) (fun _ _ _ h => h))
    (bss_cons (bs_set (ps_set (i := 4) nd rfl (by first | exact .inl rfl | exact .inr rfl) (bc (c__law_of fu KB GB) r0 (by decide) hx rfl rfl rfl (bq_cons (be_name 0) (bq_cons (be_ifExp (bt_cmp op_gt (ops_cmp _) (be_name 3) be_int (nomark _)) (be_lst (ba_cons be_int (ba_cons (be_neg be_int) (ba_cons be_int ba_nil)))) (be_lst (ba_cons be_int (ba_cons (be_neg be_int) (ba_cons be_int (ba_cons (be_neg be_int) ba_nil)))))) bq_nil)))) (fun _ _ _ h => h))
    (bss_cons (bs_set (ps_set (i := 5) nd rfl (by first | exact .inl rfl | exact .inr rfl) (be_lst (ba_cons (be_tup (ba_cons (be_op op_sub ops_sub (bc (c__law_draw fu KB GB) r0 (by decide) hx rfl rfl rfl (bq_cons (be_name 0) (bq_cons be_int bq_nil))) be_int) (ba_cons be_int ba_nil))) ba_nil))) (fun _ _ _ h => h))
    (bss_cons (bs_if (bt_cmp op_gt (ops_cmp _) (be_name 3) be_int (nomark _)) (bss_one (bs_meth (j := 5) rfl (ps_expr (pe_bm PySem.F.plainAttrs_list PySem.F.slot_list_append PySem.F.type_list_append mt_append (pe_var (i := 5) rfl (by first | exact Or.inl rfl | exact Or.inr (Or.inl rfl))) (ba_cons (be_tup (ba_cons (be_op op_sub ops_sub (bc (c__law_draw fu KB GB) r0 (by decide) hx rfl rfl rfl (bq_cons (be_name 0) (bq_cons be_int bq_nil))) be_int) (ba_cons be_int ba_nil))) ba_nil))) ms_app)) bss_nil)
    (bss_cons (bs_if (bt_cmp (op_eqD hu64) ops_eq (be_name 3) be_int (nomark _)) (bss_one (bs_meth (j := 5) rfl (ps_expr (pe_bm PySem.F.plainAttrs_list PySem.F.slot_list_append PySem.F.type_list_append mt_append (pe_var (i := 5) rfl (by first | exact Or.inl rfl | exact Or.inr (Or.inl rfl))) (ba_cons (be_tup (ba_cons be_int (ba_cons be_int ba_nil))) ba_nil))) ms_app)) bss_nil)
    (bss_one (bs_set (ps_set (i := 1) nd rfl (by first | exact .inl rfl | exact .inr rfl) (be_op opr_add ops_add (be_name 1) (be_tup (ba_cons (be_cb (pe_callTy cr_tuple rfl (no_tuple KB GB) bb_tuple (br_cons (be_op opr_add ops_add (be_name 5) (be_lst (ba_cons (be_tup (ba_cons (be_name 4) (ba_cons be_int ba_nil))) ba_nil))) br_nil)) cs_tuple) ba_nil)))) (fun _ _ _ h => h)))))))))
    (bss_one (bs_retV (i := 1)))))
def mb__law_divisor (fu : Nat) : SM := (sSeq (sPar 0 1 (eCB max2D (rCons (eName 0) (rCons (eUn negD (eName 0)) aNil))) (eCB max2D (rCons (eName 1) (rCons (eUn negD (eName 1)) aNil)))) (sSeq (sWhile (tOf (eOp gtD (eName 1) (eC (.int 0)))) (sPar 0 1 (eName 1) (eOp modD (eName 0) (eName 1))) fu) (sRetV 0)))
def mr__law_divisor (fu : Nat) : Mir := mirOf 2 (mb__law_divisor fu)
theorem sc__law_divisor : FnScope ["_law_one", "_law_other"] ["_law_one", "_law_other"] (defScope (topS 40)) := ⟨rfl, rfl, rfl, by decide +kernel, rfl, by decide +kernel, by decide +kernel⟩
theorem c__law_divisor (fu : Nat) (KB : (KK w).In base) (GB : base.Ns mainGlobals mg) : Cal P w (KK w) mg base exC 1 "_law_divisor" 2 (mr__law_divisor fu) :=
  cal_of KB GB (df__law_divisor w) sc__law_divisor 2 rfl rfl (fun _ _ _ _ _ _ us hl => match us, hl with | [_, _], _ => rfl)
  fun cdv A fr0 s H E f sa O H0 stt r0 hx => by
  have hu : (A.deeper (envOfC "_law_divisor" (defScope (topS 40)) s.heap.objs.size f cdv)).units + 1 < cLine := by have := r0.un; omega
  have hu64 : (A.deeper (envOfC "_law_divisor" (defScope (topS 40)) s.heap.objs.size f cdv)).units + 64 < cLine := by have := r0.un; omega
  have hu65 : (A.deeper (envOfC "_law_divisor" (defScope (topS 40)) s.heap.objs.size f cdv)).units + 65 < cLine := by have := r0.un; omega
  have nd := sc__law_divisor.nd
  unfold mb__law_divisor
  exact (bss_cons (bs_par (i := 0) (j := 1) rfl nd rfl rfl (by decide) rfl rfl (be_cb (pe_callB (call_max2 rfl) rfl (no_max KB GB) bb_max (br_cons (be_name 0) (br_cons (be_neg (be_name 0)) br_nil))) cs_max2) (be_cb (pe_callB (call_max2 rfl) rfl (no_max KB GB) bb_max (br_cons (be_name 1) (br_cons (be_neg (be_name 1)) br_nil))) cs_max2))
    (bss_cons (bs_while fu (passes_of rfl) (bt_cmp op_gt (ops_cmp _) (be_name 1) be_int (nomark _)) (bss_one (bs_par (i := 0) (j := 1) rfl nd rfl rfl (by decide) rfl rfl (be_name 1) (be_op op_modN ops_mod (be_name 0) (be_name 1)))))
    (bss_one (bs_retV (i := 0)))))
def mb__law_frac (fu : Nat) : SM := (sSeq (sSet 2 (eCall 2 (mr__law_divisor fu) (qCons (eName 0) (qCons (eName 1) qNil)))) (sSeq (sIf (tOf (eOp ltD (eName 1) (eC (.int 0)))) (sSet 2 (eUn negD (eName 2))) sNext) (sRet (eTup (aCons (eOp fdivD (eName 0) (eName 2)) (aCons (eOp fdivD (eName 1) (eName 2)) aNil))))))
def mr__law_frac (fu : Nat) : Mir := mirOf 3 (mb__law_frac fu)
theorem sc__law_frac : FnScope ["_law_above", "_law_below", "_law_shared"] ["_law_above", "_law_below"] (defScope (topS 41)) := ⟨rfl, rfl, rfl, by decide +kernel, rfl, by decide +kernel, by decide +kernel⟩
theorem c__law_frac (fu : Nat) (KB : (KK w).In base) (GB : base.Ns mainGlobals mg) : Cal P w (KK w) mg base exC 2 "_law_frac" 2 (mr__law_frac fu) :=
  cal_of KB GB (df__law_frac w) sc__law_frac 3 rfl rfl (fun _ _ _ _ _ _ us hl => match us, hl with | [_, _], _ => rfl)
  fun cdv A fr0 s H E f sa O H0 stt r0 hx => by
  have hu : (A.deeper (envOfC "_law_frac" (defScope (topS 41)) s.heap.objs.size f cdv)).units + 1 < cLine := by have := r0.un; omega
  have hu64 : (A.deeper (envOfC "_law_frac" (defScope (topS 41)) s.heap.objs.size f cdv)).units + 64 < cLine := by have := r0.un; omega
  have hu65 : (A.deeper (envOfC "_law_frac" (defScope (topS 41)) s.heap.objs.size f cdv)).units + 65 < cLine := by have := r0.un; omega
  have nd := sc__law_frac.nd
  unfold mb__law_frac
  exact (bss_cons (bs_set (ps_set (i := 2) nd rfl (by first | exact .inl rfl | exact .inr rfl) (bc (c__law_divisor fu KB GB) r0 (by decide) hx rfl rfl rfl (bq_cons (be_name 0) (bq_cons (be_name 1) bq_nil)))) (fun _ _ _ h => h))
    (bss_cons (bs_if (bt_cmp op_lt (ops_cmp _) (be_name 1) be_int (nomark _)) (bss_one (bs_set (ps_set (i := 2) nd rfl (by first | exact .inl rfl | exact .inr rfl) (be_neg (be_name 2))) (fun _ _ _ h => h))) bss_nil)
    (bss_one (bs_ret (be_tup (ba_cons (be_op op_fdivZ ops_fdiv (be_name 0) (be_name 2)) (ba_cons (be_op op_fdivZ ops_fdiv (be_name 1) (be_name 2)) ba_nil)))))))
def mb__law_add (fu : Nat) : SM := (sRet (eCall 2 (mr__law_frac fu) (qCons (eOp addD (eOp mulD (eOp ixD (eName 0) (eC (.int 0))) (eOp ixD (eName 1) (eC (.int 1)))) (eOp mulD (eOp ixD (eName 1) (eC (.int 0))) (eOp ixD (eName 0) (eC (.int 1))))) (qCons (eOp mulD (eOp ixD (eName 0) (eC (.int 1))) (eOp ixD (eName 1) (eC (.int 1)))) qNil))))
def mr__law_add (fu : Nat) : Mir := mirOf 2 (mb__law_add fu)
theorem sc__law_add : FnScope ["_law_one", "_law_other"] ["_law_one", "_law_other"] (defScope (topS 42)) := ⟨rfl, rfl, rfl, by decide +kernel, rfl, by decide +kernel, by decide +kernel⟩
theorem c__law_add (fu : Nat) (KB : (KK w).In base) (GB : base.Ns mainGlobals mg) : Cal P w (KK w) mg base exC 3 "_law_add" 2 (mr__law_add fu) :=
  cal_of KB GB (df__law_add w) sc__law_add 2 rfl rfl (fun _ _ _ _ _ _ us hl => match us, hl with | [_, _], _ => rfl)
  fun cdv A fr0 s H E f sa O H0 stt r0 hx => by
  have hu : (A.deeper (envOfC "_law_add" (defScope (topS 42)) s.heap.objs.size f cdv)).units + 1 < cLine := by have := r0.un; omega
  have hu64 : (A.deeper (envOfC "_law_add" (defScope (topS 42)) s.heap.objs.size f cdv)).units + 64 < cLine := by have := r0.un; omega
  have hu65 : (A.deeper (envOfC "_law_add" (defScope (topS 42)) s.heap.objs.size f cdv)).units + 65 < cLine := by have := r0.un; omega
  have nd := sc__law_add.nd
  unfold mb__law_add
  exact (bss_one (bs_ret (bc (c__law_frac fu KB GB) r0 (by decide) hx rfl rfl rfl (bq_cons (be_op opr_add ops_add (be_op opr_mul ops_mul (be_ix rfl hu (be_name 0) be_int (fun _ _ => rfl)) (be_ix rfl hu (be_name 1) be_int (fun _ _ => rfl))) (be_op opr_mul ops_mul (be_ix rfl hu (be_name 1) be_int (fun _ _ => rfl)) (be_ix rfl hu (be_name 0) be_int (fun _ _ => rfl)))) (bq_cons (be_op opr_mul ops_mul (be_ix rfl hu (be_name 0) be_int (fun _ _ => rfl)) (be_ix rfl hu (be_name 1) be_int (fun _ _ => rfl))) bq_nil)))))
def mb__law_mul (fu : Nat) : SM := (sRet (eCall 2 (mr__law_frac fu) (qCons (eOp mulD (eOp ixD (eName 0) (eC (.int 0))) (eOp ixD (eName 1) (eC (.int 0)))) (qCons (eOp mulD (eOp ixD (eName 0) (eC (.int 1))) (eOp ixD (eName 1) (eC (.int 1)))) qNil))))
def mr__law_mul (fu : Nat) : Mir := mirOf 2 (mb__law_mul fu)
theorem sc__law_mul : FnScope ["_law_one", "_law_other"] ["_law_one", "_law_other"] (defScope (topS 43)) := ⟨rfl, rfl, rfl, by decide +kernel, rfl, by decide +kernel, by decide +kernel⟩
theorem c__law_mul (fu : Nat) (KB : (KK w).In base) (GB : base.Ns mainGlobals mg) : Cal P w (KK w) mg base exC 3 "_law_mul" 2 (mr__law_mul fu) :=
  cal_of KB GB (df__law_mul w) sc__law_mul 2 rfl rfl (fun _ _ _ _ _ _ us hl => match us, hl with | [_, _], _ => rfl)
  fun cdv A fr0 s H E f sa O H0 stt r0 hx => by
  have hu : (A.deeper (envOfC "_law_mul" (defScope (topS 43)) s.heap.objs.size f cdv)).units + 1 < cLine := by have := r0.un; omega
  have hu64 : (A.deeper (envOfC "_law_mul" (defScope (topS 43)) s.heap.objs.size f cdv)).units + 64 < cLine := by have := r0.un; omega
  have hu65 : (A.deeper (envOfC "_law_mul" (defScope (topS 43)) s.heap.objs.size f cdv)).units + 65 < cLine := by have := r0.un; omega
  have nd := sc__law_mul.nd
  unfold mb__law_mul
  exact (bss_one (bs_ret (bc (c__law_frac fu KB GB) r0 (by decide) hx rfl rfl rfl (bq_cons (be_op opr_mul ops_mul (be_ix rfl hu (be_name 0) be_int (fun _ _ => rfl)) (be_ix rfl hu (be_name 1) be_int (fun _ _ => rfl))) (bq_cons (be_op opr_mul ops_mul (be_ix rfl hu (be_name 0) be_int (fun _ _ => rfl)) (be_ix rfl hu (be_name 1) be_int (fun _ _ => rfl))) bq_nil)))))
def mb__law_power (fu : Nat) : SM := (sSeq (sSet 2 (eTup (aCons (eC (.int 1)) (aCons (eC (.int 1)) aNil)))) (sSeq (sFor (iArg (fun ds => if ds.length = 1 then rngO ds else none) (aCons (eName 1) aNil)) (tgN 3) (sSet 2 (eCall 2 (mr__law_mul fu) (qCons (eName 2) (qCons (eName 0) qNil))))) (sRetV 2)))
def mr__law_power (fu : Nat) : Mir := mirOf 4 (mb__law_power fu)
theorem sc__law_power : FnScope ["_law_worth", "_law_many_so", "_law_found", "_law_turn"] ["_law_worth", "_law_many_so"] (defScope (topS 44)) := ⟨rfl, rfl, rfl, by decide +kernel, rfl, by decide +kernel, by decide +kernel⟩
theorem c__law_power (fu : Nat) (KB : (KK w).In base) (GB : base.Ns mainGlobals mg) : Cal P w (KK w) mg base exC 4 "_law_power" 2 (mr__law_power fu) :=
  cal_of KB GB (df__law_power w) sc__law_power 4 rfl rfl (fun _ _ _ _ _ _ us hl => match us, hl with | [_, _], _ => rfl)
  fun cdv A fr0 s H E f sa O H0 stt r0 hx => by
  have hu : (A.deeper (envOfC "_law_power" (defScope (topS 44)) s.heap.objs.size f cdv)).units + 1 < cLine := by have := r0.un; omega
  have hu64 : (A.deeper (envOfC "_law_power" (defScope (topS 44)) s.heap.objs.size f cdv)).units + 64 < cLine := by have := r0.un; omega
  have hu65 : (A.deeper (envOfC "_law_power" (defScope (topS 44)) s.heap.objs.size f cdv)).units + 65 < cLine := by have := r0.un; omega
  have nd := sc__law_power.nd
  unfold mb__law_power
  exact (bss_cons (bs_set (ps_set (i := 2) nd rfl (by first | exact .inl rfl | exact .inr rfl) (be_tup (ba_cons be_int (ba_cons be_int ba_nil)))) (fun _ _ _ h => h))
    (bss_cons (bs_for (passes_of rfl) rfl (bi_rng1 rfl (no_range KB GB) (ba_cons (be_name 1) ba_nil)) (pg_name (i := 3) nd rfl (by first | exact .inl rfl | exact .inr rfl)) tg_name (bss_one (bs_set (ps_set (i := 2) nd rfl (by first | exact .inl rfl | exact .inr rfl) (bc (c__law_mul fu KB GB) r0 (by decide) hx rfl rfl rfl (bq_cons (be_name 2) (bq_cons (be_name 0) bq_nil)))) (fun _ _ _ h => h))))
    (bss_one (bs_retV (i := 2)))))
def mb__law_size_at (fu : Nat) : SM := (sSeq (sPar 2 3 (eTup (aCons (eName 1) (aCons (eC (.int 1)) aNil))) (eOp subD (eCB lenD (rCons (eName 0) aNil)) (eC (.int 1)))) (sSeq (sFor (iArg (fun ds => if ds.length = 1 then rngO ds else none) (aCons (eName 3) aNil)) (tgN 4) (sSeq (sSet 5 (eTup (aCons (eCB absD (rCons (eOp ixD (eOp ixD (eName 0) (eName 4)) (eC (.int 0))) aNil)) (aCons (eOp ixD (eOp ixD (eName 0) (eName 4)) (eC (.int 1))) aNil)))) (sSet 2 (eCall 2 (mr__law_add fu) (qCons (eName 2) (qCons (eCall 2 (mr__law_mul fu) (qCons (eName 5) (qCons (eCall 2 (mr__law_power fu) (qCons (eTup (aCons (eName 1) (aCons (eC (.int 1)) aNil))) (qCons (eName 4) qNil))) qNil))) qNil)))))) (sSeq (sSet 6 (eTup (aCons (eCB absD (rCons (eOp ixD (eOp ixD (eName 0) (eUn negD (eC (.int 1)))) (eC (.int 0))) aNil)) (aCons (eOp ixD (eOp ixD (eName 0) (eUn negD (eC (.int 1)))) (eC (.int 1))) aNil)))) (sRet (eTup (aCons (eCall 2 (mr__law_mul fu) (qCons (eName 6) (qCons (eCall 2 (mr__law_power fu) (qCons (eTup (aCons (eName 1) (aCons (eC (.int 1)) aNil))) (qCons (eName 3) qNil))) qNil))) (aCons (eName 2) aNil)))))))
def mr__law_size_at (fu : Nat) : Mir := mirOf 7 (mb__law_size_at fu)
theorem sc__law_size_at : FnScope ["_law_told", "_law_wide", "_law_low", "_law_size", "_law_power_here", "_law_worth", "_law_head"] ["_law_told", "_law_wide"] (defScope (topS 47)) := ⟨rfl, rfl, rfl, by decide +kernel, rfl, by decide +kernel, by decide +kernel⟩
theorem c__law_size_at (fu : Nat) (KB : (KK w).In base) (GB : base.Ns mainGlobals mg) : Cal P w (KK w) mg base exC 5 "_law_size_at" 2 (mr__law_size_at fu) :=
  cal_of KB GB (df__law_size_at w) sc__law_size_at 7 rfl rfl (fun _ _ _ _ _ _ us hl => match us, hl with | [_, _], _ => rfl)
  fun cdv A fr0 s H E f sa O H0 stt r0 hx => by
  have hu : (A.deeper (envOfC "_law_size_at" (defScope (topS 47)) s.heap.objs.size f cdv)).units + 1 < cLine := by have := r0.un; omega
  have hu64 : (A.deeper (envOfC "_law_size_at" (defScope (topS 47)) s.heap.objs.size f cdv)).units + 64 < cLine := by have := r0.un; omega
  have hu65 : (A.deeper (envOfC "_law_size_at" (defScope (topS 47)) s.heap.objs.size f cdv)).units + 65 < cLine := by have := r0.un; omega
  have nd := sc__law_size_at.nd
  unfold mb__law_size_at
  exact (bss_cons (bs_par (i := 2) (j := 3) rfl nd rfl rfl (by decide) rfl rfl (be_tup (ba_cons (be_name 1) (ba_cons be_int ba_nil))) (be_op op_sub ops_sub (be_cb (pe_callB cr_len rfl (no_len KB GB) bb_len (br_cons (be_name 0) br_nil)) cs_len) be_int))
    (bss_cons (bs_for (passes_of rfl) rfl (bi_rng1 rfl (no_range KB GB) (ba_cons (be_name 3) ba_nil)) (pg_name (i := 4) nd rfl (by first | exact .inl rfl | exact .inr rfl)) tg_name (bss_cons (bs_set (ps_set (i := 5) nd rfl (by first | exact .inl rfl | exact .inr rfl) (be_tup (ba_cons (be_cb (pe_callB call_abs rfl (no_abs KB GB) bb_abs (br_cons (be_ix rfl hu (be_ix rfl hu (be_name 0) (be_name 4) (fun _ _ => rfl)) be_int (fun _ _ => rfl)) br_nil)) cs_abs) (ba_cons (be_ix rfl hu (be_ix rfl hu (be_name 0) (be_name 4) (fun _ _ => rfl)) be_int (fun _ _ => rfl)) ba_nil)))) (fun _ _ _ h => h))
    (bss_one (bs_set (ps_set (i := 2) nd rfl (by first | exact .inl rfl | exact .inr rfl) (bc (c__law_add fu KB GB) r0 (by decide) hx rfl rfl rfl (bq_cons (be_name 2) (bq_cons (bc (c__law_mul fu KB GB) r0 (by decide) hx rfl rfl rfl (bq_cons (be_name 5) (bq_cons (bc (c__law_power fu KB GB) r0 (by decide) hx rfl rfl rfl (bq_cons (be_tup (ba_cons (be_name 1) (ba_cons be_int ba_nil))) (bq_cons (be_name 4) bq_nil))) bq_nil))) bq_nil)))) (fun _ _ _ h => h)))))
    (bss_cons (bs_set (ps_set (i := 6) nd rfl (by first | exact .inl rfl | exact .inr rfl) (be_tup (ba_cons (be_cb (pe_callB call_abs rfl (no_abs KB GB) bb_abs (br_cons (be_ix rfl hu (be_ix rfl hu (be_name 0) (be_neg be_int) (fun _ _ => rfl)) be_int (fun _ _ => rfl)) br_nil)) cs_abs) (ba_cons (be_ix rfl hu (be_ix rfl hu (be_name 0) (be_neg be_int) (fun _ _ => rfl)) be_int (fun _ _ => rfl)) ba_nil)))) (fun _ _ _ h => h))
    (bss_one (bs_ret (be_tup (ba_cons (bc (c__law_mul fu KB GB) r0 (by decide) hx rfl rfl rfl (bq_cons (be_name 6) (bq_cons (bc (c__law_power fu KB GB) r0 (by decide) hx rfl rfl rfl (bq_cons (be_tup (ba_cons (be_name 1) (ba_cons be_int ba_nil))) (bq_cons (be_name 3) bq_nil))) bq_nil))) (ba_cons (be_name 2) ba_nil))))))))
def mb__law_less (fu : Nat) : SM := (sRet (eOp ltD (eOp mulD (eOp ixD (eName 0) (eC (.int 0))) (eOp ixD (eName 1) (eC (.int 1)))) (eOp mulD (eOp ixD (eName 1) (eC (.int 0))) (eOp ixD (eName 0) (eC (.int 1))))))
def mr__law_less (fu : Nat) : Mir := mirOf 2 (mb__law_less fu)
theorem sc__law_less : FnScope ["_law_one", "_law_other"] ["_law_one", "_law_other"] (defScope (topS 45)) := ⟨rfl, rfl, rfl, by decide +kernel, rfl, by decide +kernel, by decide +kernel⟩
theorem c__law_less (fu : Nat) (KB : (KK w).In base) (GB : base.Ns mainGlobals mg) : Cal P w (KK w) mg base exC 1 "_law_less" 2 (mr__law_less fu) :=
  cal_of KB GB (df__law_less w) sc__law_less 2 rfl rfl (fun _ _ _ _ _ _ us hl => match us, hl with | [_, _], _ => rfl)
  fun cdv A fr0 s H E f sa O H0 stt r0 hx => by
  have hu : (A.deeper (envOfC "_law_less" (defScope (topS 45)) s.heap.objs.size f cdv)).units + 1 < cLine := by have := r0.un; omega
  have hu64 : (A.deeper (envOfC "_law_less" (defScope (topS 45)) s.heap.objs.size f cdv)).units + 64 < cLine := by have := r0.un; omega
  have hu65 : (A.deeper (envOfC "_law_less" (defScope (topS 45)) s.heap.objs.size f cdv)).units + 65 < cLine := by have := r0.un; omega
  have nd := sc__law_less.nd
  unfold mb__law_less
  exact (bss_one (bs_ret (be_cmp op_lt (ops_cmp _) (be_op opr_mul ops_mul (be_ix rfl hu (be_name 0) be_int (fun _ _ => rfl)) (be_ix rfl hu (be_name 1) be_int (fun _ _ => rfl))) (be_op opr_mul ops_mul (be_ix rfl hu (be_name 1) be_int (fun _ _ => rfl)) (be_ix rfl hu (be_name 0) be_int (fun _ _ => rfl))) (nomark _))))
def mb__law_most (fu : Nat) : SM := (sSeq (sSet 1 (eC (.int 1))) (sSeq (sFor (iSeq (eName 0)) (tgN 2) (sSeq (sSet 3 (eC (.int 1))) (sSeq (sTup [4, 5] (eCall 2 (mr__law_size_at fu) (qCons (eName 2) (qCons (eName 3) qNil)))) (sSeq (sWhile (tOf (eCall 2 (mr__law_less fu) (qCons (eName 4) (qCons (eName 5) qNil)))) (sSeq (sSet 3 (eOp addD (eName 3) (eC (.int 1)))) (sTup [4, 5] (eCall 2 (mr__law_size_at fu) (qCons (eName 2) (qCons (eName 3) qNil))))) fu) (sSet 1 (eCB max2D (rCons (eName 1) (rCons (eName 3) aNil)))))))) (sRetV 1)))
def mr__law_most (fu : Nat) : Mir := mirOf 6 (mb__law_most fu)
theorem sc__law_most : FnScope ["_law_steps_so", "_law_most_here", "_law_told", "_law_wide", "_law_high", "_law_low"] ["_law_steps_so"] (defScope (topS 50)) := ⟨rfl, rfl, rfl, by decide +kernel, rfl, by decide +kernel, by decide +kernel⟩
theorem c__law_most (fu : Nat) (KB : (KK w).In base) (GB : base.Ns mainGlobals mg) : Cal P w (KK w) mg base exC 6 "_law_most" 1 (mr__law_most fu) :=
  cal_of KB GB (df__law_most w) sc__law_most 6 rfl rfl (fun _ _ _ _ _ _ us hl => match us, hl with | [_], _ => rfl)
  fun cdv A fr0 s H E f sa O H0 stt r0 hx => by
  have hu : (A.deeper (envOfC "_law_most" (defScope (topS 50)) s.heap.objs.size f cdv)).units + 1 < cLine := by have := r0.un; omega
  have hu64 : (A.deeper (envOfC "_law_most" (defScope (topS 50)) s.heap.objs.size f cdv)).units + 64 < cLine := by have := r0.un; omega
  have hu65 : (A.deeper (envOfC "_law_most" (defScope (topS 50)) s.heap.objs.size f cdv)).units + 65 < cLine := by have := r0.un; omega
  have nd := sc__law_most.nd
  unfold mb__law_most
  exact (bss_cons (bs_set (ps_set (i := 1) nd rfl (by first | exact .inl rfl | exact .inr rfl) be_int) (fun _ _ _ h => h))
    (bss_cons (bs_for (passes_of rfl) rfl (bi_seq rfl (be_name 0)) (pg_name (i := 2) nd rfl (by first | exact .inl rfl | exact .inr rfl)) tg_name (bss_cons (bs_set (ps_set (i := 3) nd rfl (by first | exact .inl rfl | exact .inr rfl) be_int) (fun _ _ _ h => h))
    (bss_cons (bs_tup (is := [4, 5]) rfl (ps_asg (bc (c__law_size_at fu KB GB) r0 (by decide) hx rfl rfl rfl (bq_cons (be_name 2) (bq_cons (be_name 3) bq_nil))) (pg_tup rfl (pgs_cons (pg_name (i := 4) nd rfl (by first | exact .inl rfl | exact .inr rfl)) (pgs_cons (pg_name (i := 5) nd rfl (by first | exact .inl rfl | exact .inr rfl)) pgs_nil)))) rfl)
    (bss_cons (bs_while fu (passes_of rfl) (bt_val (bc (c__law_less fu KB GB) r0 (by decide) hx rfl rfl rfl (bq_cons (be_name 4) (bq_cons (be_name 5) bq_nil)))) (bss_cons (bs_set (ps_set (i := 3) nd rfl (by first | exact .inl rfl | exact .inr rfl) (be_op opr_add ops_add (be_name 3) be_int)) (fun _ _ _ h => h))
    (bss_one (bs_tup (is := [4, 5]) rfl (ps_asg (bc (c__law_size_at fu KB GB) r0 (by decide) hx rfl rfl rfl (bq_cons (be_name 2) (bq_cons (be_name 3) bq_nil))) (pg_tup rfl (pgs_cons (pg_name (i := 4) nd rfl (by first | exact .inl rfl | exact .inr rfl)) (pgs_cons (pg_name (i := 5) nd rfl (by first | exact .inl rfl | exact .inr rfl)) pgs_nil)))) rfl))))
    (bss_one (bs_set (ps_set (i := 1) nd rfl (by first | exact .inl rfl | exact .inr rfl) (be_cb (pe_callB (call_max2 rfl) rfl (no_max KB GB) bb_max (br_cons (be_name 1) (br_cons (be_name 3) br_nil))) cs_max2)) (fun _ _ _ h => h)))))))
    (bss_one (bs_retV (i := 1)))))
def mb__law_led_to (fu : Nat) : SM := (sSeq (sSet 2 (eC (.int 0))) (sSeq (sFor (iSeq (eUn revD (eName 0))) (tgN 3) (sSet 2 (eOp addD (eOp mulD (eName 2) (eName 1)) (eOp ixD (eName 3) (eC (.int 0)))))) (sRetV 2)))
def mr__law_led_to (fu : Nat) : Mir := mirOf 4 (mb__law_led_to fu)
theorem sc__law_led_to : FnScope ["_law_told", "_law_here", "_law_found", "_law_worth"] ["_law_told", "_law_here"] (defScope (topS 49)) := ⟨rfl, rfl, rfl, by decide +kernel, rfl, by decide +kernel, by decide +kernel⟩
theorem c__law_led_to (fu : Nat) (KB : (KK w).In base) (GB : base.Ns mainGlobals mg) : Cal P w (KK w) mg base exC 1 "_law_led_to" 2 (mr__law_led_to fu) :=
  cal_of KB GB (df__law_led_to w) sc__law_led_to 4 rfl rfl (fun _ _ _ _ _ _ us hl => match us, hl with | [_, _], _ => rfl)
  fun cdv A fr0 s H E f sa O H0 stt r0 hx => by
  have hu : (A.deeper (envOfC "_law_led_to" (defScope (topS 49)) s.heap.objs.size f cdv)).units + 1 < cLine := by have := r0.un; omega
  have hu64 : (A.deeper (envOfC "_law_led_to" (defScope (topS 49)) s.heap.objs.size f cdv)).units + 64 < cLine := by have := r0.un; omega
  have hu65 : (A.deeper (envOfC "_law_led_to" (defScope (topS 49)) s.heap.objs.size f cdv)).units + 65 < cLine := by have := r0.un; omega
  have nd := sc__law_led_to.nd
  unfold mb__law_led_to
  exact (bss_cons (bs_set (ps_set (i := 2) nd rfl (by first | exact .inl rfl | exact .inr rfl) be_int) (fun _ _ _ h => h))
    (bss_cons (bs_for (passes_of rfl) rfl (bi_seq rfl (be_rev rfl (be_name 0))) (pg_name (i := 3) nd rfl (by first | exact .inl rfl | exact .inr rfl)) tg_name (bss_one (bs_set (ps_set (i := 2) nd rfl (by first | exact .inl rfl | exact .inr rfl) (be_op opr_add ops_add (be_op opr_mul ops_mul (be_name 2) (be_name 1)) (be_ix rfl hu (be_name 3) be_int (fun _ _ => rfl)))) (fun _ _ _ h => h))))
    (bss_one (bs_retV (i := 2)))))
def mb__law_words (fu : Nat) : SM := (sSeq (sPar 3 4 eDk0 (eLst aNil)) (sSeq (sIf (tOf (eOp leD (eCB absD (rCons (eName 1) aNil)) (eName 2))) (sSeq (sStore 3 (eName 1) (eTup aNil)) (sMeth 4 appD (aCons (eName 1) aNil) none)) sNext) (sSeq (sFor (iArg (fun ds => if ds.length = 1 then rngO ds else none) (aCons (eOp addD (eOp mulD (eC (.int 2)) (eName 2)) (eC (.int 2))) aNil)) (tgN 5) (sIf (tOf (eOp ltD (eName 5) (eCB lenD (rCons (eName 4) aNil)))) (sSeq (sSet 6 (eOp ixD (eName 4) (eName 5))) (sFor (iArg enumO (aCons (eName 0) aNil)) (tgT [7, 8]) (sSeq (sSet 9 (eCall 2 (mr__law_led_to fu) (qCons (eName 8) (qCons (eName 6) qNil)))) (sIf (bAnd (tOf (eOp leD (eCB absD (rCons (eName 9) aNil)) (eName 2))) (tOf (eOp notinO (eName 9) (eName 3)))) (sSeq (sStore 3 (eName 9) (eOp addD (eOp ixD (eName 3) (eName 6)) (eTup (aCons (eName 7) aNil)))) (sMeth 4 appD (aCons (eName 9) aNil) none)) sNext)))) sNext)) (sRetV 3))))
def mr__law_words (fu : Nat) : Mir := mirOf 10 (mb__law_words fu)
theorem sc__law_words : FnScope ["_law_steps_so", "_law_first", "_law_most_here", "_law_found", "_law_line", "_law_at", "_law_here", "_law_index", "_law_told", "_law_there"] ["_law_steps_so", "_law_first", "_law_most_here"] (defScope (topS 51)) := ⟨rfl, rfl, rfl, by decide +kernel, rfl, by decide +kernel, by decide +kernel⟩
theorem c__law_words (fu : Nat) (KB : (KK w).In base) (GB : base.Ns mainGlobals mg) : Cal P w (KK w) mg base exC 2 "_law_words" 3 (mr__law_words fu) :=
  cal_of KB GB (df__law_words w) sc__law_words 10 rfl rfl (fun _ _ _ _ _ _ us hl => match us, hl with | [_, _, _], _ => rfl)
  fun cdv A fr0 s H E f sa O H0 stt r0 hx => by
  have hu : (A.deeper (envOfC "_law_words" (defScope (topS 51)) s.heap.objs.size f cdv)).units + 1 < cLine := by have := r0.un; omega
  have hu64 : (A.deeper (envOfC "_law_words" (defScope (topS 51)) s.heap.objs.size f cdv)).units + 64 < cLine := by have := r0.un; omega
  have hu65 : (A.deeper (envOfC "_law_words" (defScope (topS 51)) s.heap.objs.size f cdv)).units + 65 < cLine := by have := r0.un; omega
  have nd := sc__law_words.nd
  unfold mb__law_words
  exact (bss_cons (bs_par (i := 3) (j := 4) rfl nd rfl rfl (by decide) rfl rfl be_dk0 (be_lst ba_nil))
    (bss_cons (bs_if (bt_cmp op_le (ops_cmp _) (be_cb (pe_callB call_abs rfl (no_abs KB GB) bb_abs (br_cons (be_name 1) br_nil)) cs_abs) (be_name 2) (nomark _)) (bss_cons (bs_store (j := 3) (ps_asg (be_tup ba_nil) (pg_sub (pe_var (i := 3) rfl (by first | exact Or.inl rfl | exact Or.inr (Or.inl rfl))) (be_name 1) (set_B hu))))
    (bss_one (bs_meth (j := 4) rfl (ps_expr (pe_bm PySem.F.plainAttrs_list PySem.F.slot_list_append PySem.F.type_list_append mt_append (pe_var (i := 4) rfl (by first | exact Or.inl rfl | exact Or.inr (Or.inl rfl))) (ba_cons (be_name 1) ba_nil))) ms_app))) bss_nil)
    (bss_cons (bs_for (passes_of rfl) rfl (bi_rng1 rfl (no_range KB GB) (ba_cons (be_op opr_add ops_add (be_op opr_mul ops_mul be_int (be_name 2)) be_int) ba_nil)) (pg_name (i := 5) nd rfl (by first | exact .inl rfl | exact .inr rfl)) tg_name (bss_one (bs_if (bt_cmp op_lt (ops_cmp _) (be_name 5) (be_cb (pe_callB cr_len rfl (no_len KB GB) bb_len (br_cons (be_name 4) br_nil)) cs_len) (nomark _)) (bss_cons (bs_set (ps_set (i := 6) nd rfl (by first | exact .inl rfl | exact .inr rfl) (be_ix rfl hu (be_name 4) (be_name 5) (fun _ _ => rfl))) (fun _ _ _ h => h))
    (bss_one (bs_for (passes_of rfl) rfl (bi_enum rfl rfl (no_enumerate KB GB) (ba_cons (be_name 0) ba_nil)) (pg_tup rfl (pgs_cons (pg_name (i := 7) nd rfl (by first | exact .inl rfl | exact .inr rfl)) (pgs_cons (pg_name (i := 8) nd rfl (by first | exact .inl rfl | exact .inr rfl)) pgs_nil))) (tg_tup (is := [7, 8]) rfl rfl) (bss_cons (bs_set (ps_set (i := 9) nd rfl (by first | exact .inl rfl | exact .inr rfl) (bc (c__law_led_to fu KB GB) r0 (by decide) hx rfl rfl rfl (bq_cons (be_name 8) (bq_cons (be_name 6) bq_nil)))) (fun _ _ _ h => h))
    (bss_one (bs_if (bt_w (bw_and (bt_cmp op_le (ops_cmp _) (be_cb (pe_callB call_abs rfl (no_abs KB GB) bb_abs (br_cons (be_name 9) br_nil)) cs_abs) (be_name 2) (nomark _)) (bw_and1 (bt_cmp (opr_notin hu65) ops_notin (be_name 9) (be_name 3) rfl)))) (bss_cons (bs_store (j := 3) (ps_asg (be_op opr_add ops_add (be_ix rfl hu (be_name 3) (be_name 6) (fun _ _ => rfl)) (be_tup (ba_cons (be_name 7) ba_nil))) (pg_sub (pe_var (i := 3) rfl (by first | exact Or.inl rfl | exact Or.inr (Or.inl rfl))) (be_name 9) (set_B hu))))
    (bss_one (bs_meth (j := 4) rfl (ps_expr (pe_bm PySem.F.plainAttrs_list PySem.F.slot_list_append PySem.F.type_list_append mt_append (pe_var (i := 4) rfl (by first | exact Or.inl rfl | exact Or.inr (Or.inl rfl))) (ba_cons (be_name 9) ba_nil))) ms_app))) bss_nil)))))) bss_nil)))
    (bss_one (bs_retV (i := 3))))))
def mb__law_goals (fu : Nat) : SM := (sSeq (sSet 3 (eLst (aCons (eOp subD (eCall 2 (mr__law_draw fu) (qCons (eName 0) (qCons (eOp addD (eOp mulD (eC (.int 2)) (eName 2)) (eC (.int 1))) qNil))) (eName 2)) (aCons (eOp addD (eName 2) (eC (.int 1))) (aCons (eOp subD (eUn negD (eName 2)) (eC (.int 3))) aNil))))) (sUn 3 (sRet (eIf (tOf (eOp neD0 (eName 1) eDk0)) (eOp addD (eName 3) (eLst (aCons (eCall 2 (mr__law_of fu) (qCons (eName 0) (qCons (eCB listD (rCons (eName 1) aNil)) qNil))) aNil))) (eName 3)))))
def mr__law_goals (fu : Nat) : Mir := mirOf 4 (mb__law_goals fu)
theorem sc__law_goals : FnScope ["_law_state", "_law_found", "_law_most_here", "_law_some"] ["_law_state", "_law_found", "_law_most_here"] (defScope (topS 52)) := ⟨rfl, rfl, rfl, by decide +kernel, rfl, by decide +kernel, by decide +kernel⟩
theorem c__law_goals (fu : Nat) (KB : (KK w).In base) (GB : base.Ns mainGlobals mg) : Cal P w (KK w) mg base exC 4 "_law_goals" 3 (mr__law_goals fu) :=
  cal_of KB GB (df__law_goals w) sc__law_goals 4 rfl rfl (fun _ _ _ _ _ _ us hl => match us, hl with | [_, _, _], _ => rfl)
  fun cdv A fr0 s H E f sa O H0 stt r0 hx => by
  have hu : (A.deeper (envOfC "_law_goals" (defScope (topS 52)) s.heap.objs.size f cdv)).units + 1 < cLine := by have := r0.un; omega
  have hu64 : (A.deeper (envOfC "_law_goals" (defScope (topS 52)) s.heap.objs.size f cdv)).units + 64 < cLine := by have := r0.un; omega
  have hu65 : (A.deeper (envOfC "_law_goals" (defScope (topS 52)) s.heap.objs.size f cdv)).units + 65 < cLine := by have := r0.un; omega
  have nd := sc__law_goals.nd
  unfold mb__law_goals
  exact (bss_cons (bs_set (ps_set (i := 3) nd rfl (by first | exact .inl rfl | exact .inr rfl) (be_lst (ba_cons (be_op op_sub ops_sub (bc (c__law_draw fu KB GB) r0 (by decide) hx rfl rfl rfl (bq_cons (be_name 0) (bq_cons (be_op opr_add ops_add (be_op opr_mul ops_mul be_int (be_name 2)) be_int) bq_nil))) (be_name 2)) (ba_cons (be_op opr_add ops_add (be_name 2) be_int) (ba_cons (be_op op_sub ops_sub (be_neg (be_name 2)) be_int) ba_nil))))) (fun _ _ _ h => h))
    (bss_one (bs_un (i := 3) (bs_ret (be_ifExp (bt_cmp (op_neD0 (Nat.lt_of_succ_lt hu)) ops_ne0 (be_name 1) be_dk0 (nomark _)) (be_op opr_add ops_add (be_name 3) (be_lst (ba_cons (bc (c__law_of fu KB GB) r0 (by decide) hx rfl rfl rfl (bq_cons (be_name 0) (bq_cons (be_cb (pe_callTy (cr_list rfl) rfl (no_list KB GB) bb_list (br_cons (be_name 1) br_nil)) cs_list) bq_nil))) ba_nil))) (be_name 3))))))
def mb__law_pair_right (fu : Nat) : SM := (sSeq (sSet 3 (eCB max2D (rCons (eCall 1 (mr__law_most fu) (qCons (eName 0) qNil)) (rCons (eCB absD (rCons (eName 2) aNil)) aNil)))) (sSeq (sSet 4 (eCall 3 (mr__law_words fu) (qCons (eName 0) (qCons (eName 1) (qCons (eName 3) qNil))))) (sSeq (sSet 5 (eIf (tOf (eOp eqD (eName 1) (eName 2))) (eTup aNil) (eGet1 (eName 4) (eName 2)))) (sSeq (sSet 6 (eCall 3 (mr_reach fu) (qCons (eName 0) (qCons (eTup (aCons (eName 1) (aCons (eC (.int 1)) aNil))) (qCons (eTup (aCons (eName 2) (aCons (eC (.int 1)) aNil))) qNil))))) (sSeq (sIf (bNot (tOf (eCall 2 (mr__law_like fu) (qCons (eName 6) (qCons (eName 5) qNil))))) (sRet (eC (.bl false))) sNext) (sSeq (sIf (tOf (eOp isD (eName 6) (eC .non))) (sRet (eC (.bl true))) sNext) (sSeq (sSet 7 (eName 1)) (sSeq (sFor (iSeq (eName 6)) (tgN 8) (sSet 7 (eCall 2 (mr__law_led_to fu) (qCons (eOp ixD (eName 0) (eName 8)) (qCons (eName 7) qNil))))) (sRet (eOp eqD (eName 7) (eName 2)))))))))))
def mr__law_pair_right (fu : Nat) : Mir := mirOf 9 (mb__law_pair_right fu)
theorem sc__law_pair_right : FnScope ["_law_steps_so", "_law_first", "_law_last", "_law_most_here", "_law_found", "_law_due", "_law_told", "_law_here", "_law_index"] ["_law_steps_so", "_law_first", "_law_last"] (defScope (topS 53)) := ⟨rfl, rfl, rfl, by decide +kernel, rfl, by decide +kernel, by decide +kernel⟩
theorem c__law_pair_right (fu : Nat) (KB : (KK w).In base) (GB : base.Ns mainGlobals mg) : Cal P w (KK w) mg base exC 8 "_law_pair_right" 3 (mr__law_pair_right fu) :=
  cal_of KB GB (df__law_pair_right w) sc__law_pair_right 9 rfl rfl (fun _ _ _ _ _ _ us hl => match us, hl with | [_, _, _], _ => rfl)
  fun cdv A fr0 s H E f sa O H0 stt r0 hx => by
  have hu : (A.deeper (envOfC "_law_pair_right" (defScope (topS 53)) s.heap.objs.size f cdv)).units + 1 < cLine := by have := r0.un; omega
  have hu64 : (A.deeper (envOfC "_law_pair_right" (defScope (topS 53)) s.heap.objs.size f cdv)).units + 64 < cLine := by have := r0.un; omega
  have hu65 : (A.deeper (envOfC "_law_pair_right" (defScope (topS 53)) s.heap.objs.size f cdv)).units + 65 < cLine := by have := r0.un; omega
  have nd := sc__law_pair_right.nd
  unfold mb__law_pair_right
  exact (bss_cons (bs_set (ps_set (i := 3) nd rfl (by first | exact .inl rfl | exact .inr rfl) (be_cb (pe_callB (call_max2 rfl) rfl (no_max KB GB) bb_max (br_cons (bc (c__law_most fu KB GB) r0 (by decide) hx rfl rfl rfl (bq_cons (be_name 0) bq_nil)) (br_cons (be_cb (pe_callB call_abs rfl (no_abs KB GB) bb_abs (br_cons (be_name 2) br_nil)) cs_abs) br_nil))) cs_max2)) (fun _ _ _ h => h))
    (bss_cons (bs_set (ps_set (i := 4) nd rfl (by first | exact .inl rfl | exact .inr rfl) (bc (c__law_words fu KB GB) r0 (by decide) hx rfl rfl rfl (bq_cons (be_name 0) (bq_cons (be_name 1) (bq_cons (be_name 3) bq_nil))))) (fun _ _ _ h => h))
    (bss_cons (bs_set (ps_set (i := 5) nd rfl (by first | exact .inl rfl | exact .inr rfl) (be_ifExp (bt_cmp (op_eqD hu64) ops_eq (be_name 1) (be_name 2) (nomark _)) (be_tup ba_nil) (be_get1 hu (be_name 4) (be_name 2) ⟨rfl, rfl, rfl, rfl⟩))) (fun _ _ _ h => h))
    (bss_cons (bs_set (ps_set (i := 6) nd rfl (by first | exact .inl rfl | exact .inr rfl) (bc (c_reach fu KB GB) r0 (by decide) hx rfl rfl rfl (bq_cons (be_name 0) (bq_cons (be_tup (ba_cons (be_name 1) (ba_cons be_int ba_nil))) (bq_cons (be_tup (ba_cons (be_name 2) (ba_cons be_int ba_nil))) bq_nil))))) (fun _ _ _ h => h))
    (bss_cons (bs_if (bt_not (bt_val (bc (c__law_like fu KB GB) r0 (by decide) hx rfl rfl rfl (bq_cons (be_name 6) (bq_cons (be_name 5) bq_nil))))) (bss_one (bs_ret be_bl)) bss_nil)
    (bss_cons (bs_if (bt_cmp op_isN ops_is (be_name 6) be_non (nomark _)) (bss_one (bs_ret be_bl)) bss_nil)
    (bss_cons (bs_set (ps_set (i := 7) nd rfl (by first | exact .inl rfl | exact .inr rfl) (be_name 1)) (fun _ _ _ h => h))
    (bss_cons (bs_for (passes_of rfl) rfl (bi_seq rfl (be_name 6)) (pg_name (i := 8) nd rfl (by first | exact .inl rfl | exact .inr rfl)) tg_name (bss_one (bs_set (ps_set (i := 7) nd rfl (by first | exact .inl rfl | exact .inr rfl) (bc (c__law_led_to fu KB GB) r0 (by decide) hx rfl rfl rfl (bq_cons (be_ix rfl hu (be_name 0) (be_name 8) (fun _ _ => rfl)) (bq_cons (be_name 7) bq_nil)))) (fun _ _ _ h => h))))
    (bss_one (bs_ret (be_cmp (op_eqD hu64) ops_eq (be_name 7) (be_name 2) (nomark _))))))))))))
def mb__law_right (fu : Nat) : SM := (sSeq (sSet 1 (eCall 1 (mr__law_choices fu) (qCons (eName 0) qNil))) (sSeq (sSet 2 (eCall 1 (mr__law_most fu) (qCons (eName 1) qNil))) (sSeq (sSet 3 (eOp subD (eOp subD (eCall 2 (mr__law_draw fu) (qCons (eName 0) (qCons (eOp addD (eOp mulD (eC (.int 2)) (eName 2)) (eC (.int 3))) qNil))) (eName 2)) (eC (.int 1)))) (sSeq (sSet 4 (eCall 3 (mr__law_words fu) (qCons (eName 1) (qCons (eName 3) (qCons (eName 2) qNil))))) (sSeq (sUn 4 (sFor (iSeq (eOp addD (eCall 3 (mr__law_goals fu) (qCons (eName 0) (qCons (eName 4) (qCons (eName 2) qNil)))) (eLst (aCons (eName 3) aNil)))) (tgN 5) (sIf (bNot (tOf (eCall 3 (mr__law_pair_right fu) (qCons (eName 1) (qCons (eName 3) (qCons (eName 5) qNil)))))) (sRet (eC (.bl false))) sNext))) (sSeq (sSet 6 (eOp addD (eOp addD (eName 2) (eC (.int 5))) (eCall 2 (mr__law_draw fu) (qCons (eName 0) (qCons (eC (.int 20)) qNil))))) (sSeq (sIf (bNot (tOf (eCall 2 (mr__law_like fu) (qCons (eCall 3 (mr_reach fu) (qCons (eName 1) (qCons (eTup (aCons (eName 6) (aCons (eC (.int 1)) aNil))) (qCons (eTup (aCons (eCall 2 (mr__law_draw fu) (qCons (eName 0) (qCons (eOp addD (eName 2) (eC (.int 1))) qNil))) (aCons (eC (.int 1)) aNil))) qNil)))) (qCons (eC .non) qNil))))) (sRet (eC (.bl false))) sNext) (sSeq (sSet 7 (eOp addD (eName 1) (eTup (aCons (eTup (aCons (eTup (aCons (eOp subD (eCall 2 (mr__law_draw fu) (qCons (eName 0) (qCons (eC (.int 5)) qNil))) (eC (.int 2))) (aCons (eC (.int 1)) aNil))) (aCons (eTup (aCons (eC (.int 2)) (aCons (eC (.int 1)) aNil))) aNil))) aNil)))) (sSeq (sSet 5 (eIf (tOf (eOp neD0 (eName 4) eDk0)) (eCall 2 (mr__law_of fu) (qCons (eName 0) (qCons (eCB listD (rCons (eName 4) aNil)) qNil))) (eName 3))) (sSeq (sSet 8 (eCall 3 (mr_reach fu) (qCons (eName 1) (qCons (eTup (aCons (eName 3) (aCons (eC (.int 1)) aNil))) (qCons (eTup (aCons (eName 5) (aCons (eC (.int 1)) aNil))) qNil))))) (sSeq (sSet 6 (eCall 3 (mr_reach fu) (qCons (eName 7) (qCons (eTup (aCons (eName 3) (aCons (eC (.int 1)) aNil))) (qCons (eTup (aCons (eName 5) (aCons (eC (.int 1)) aNil))) qNil))))) (sRet (eAnd (eOp notD (eName 6) (eC .non)) (eOp leD (eCB lenD (rCons (eName 6) aNil)) (eCB lenD (rCons (eName 8) aNil))))))))))))))))
def mr__law_right (fu : Nat) : Mir := mirOf 9 (mb__law_right fu)
theorem sc__law_right : FnScope ["_law_state", "_law_steps_so", "_law_most_here", "_law_first", "_law_found", "_law_last", "_law_far", "_law_more", "_law_near"] ["_law_state"] (defScope (topS 54)) := ⟨rfl, rfl, rfl, by decide +kernel, rfl, by decide +kernel, by decide +kernel⟩
theorem c__law_right (fu : Nat) (KB : (KK w).In base) (GB : base.Ns mainGlobals mg) : Cal P w (KK w) mg base exC 9 "_law_right" 1 (mr__law_right fu) :=
  cal_of KB GB (df__law_right w) sc__law_right 9 rfl rfl (fun _ _ _ _ _ _ us hl => match us, hl with | [_], _ => rfl)
  fun cdv A fr0 s H E f sa O H0 stt r0 hx => by
  have hu : (A.deeper (envOfC "_law_right" (defScope (topS 54)) s.heap.objs.size f cdv)).units + 1 < cLine := by have := r0.un; omega
  have hu64 : (A.deeper (envOfC "_law_right" (defScope (topS 54)) s.heap.objs.size f cdv)).units + 64 < cLine := by have := r0.un; omega
  have hu65 : (A.deeper (envOfC "_law_right" (defScope (topS 54)) s.heap.objs.size f cdv)).units + 65 < cLine := by have := r0.un; omega
  have nd := sc__law_right.nd
  unfold mb__law_right
  exact (bss_cons (bs_set (ps_set (i := 1) nd rfl (by first | exact .inl rfl | exact .inr rfl) (bc (c__law_choices fu KB GB) r0 (by decide) hx rfl rfl rfl (bq_cons (be_name 0) bq_nil))) (fun _ _ _ h => h))
    (bss_cons (bs_set (ps_set (i := 2) nd rfl (by first | exact .inl rfl | exact .inr rfl) (bc (c__law_most fu KB GB) r0 (by decide) hx rfl rfl rfl (bq_cons (be_name 1) bq_nil))) (fun _ _ _ h => h))
    (bss_cons (bs_set (ps_set (i := 3) nd rfl (by first | exact .inl rfl | exact .inr rfl) (be_op op_sub ops_sub (be_op op_sub ops_sub (bc (c__law_draw fu KB GB) r0 (by decide) hx rfl rfl rfl (bq_cons (be_name 0) (bq_cons (be_op opr_add ops_add (be_op opr_mul ops_mul be_int (be_name 2)) be_int) bq_nil))) (be_name 2)) be_int)) (fun _ _ _ h => h))
    (bss_cons (bs_set (ps_set (i := 4) nd rfl (by first | exact .inl rfl | exact .inr rfl) (bc (c__law_words fu KB GB) r0 (by decide) hx rfl rfl rfl (bq_cons (be_name 1) (bq_cons (be_name 3) (bq_cons (be_name 2) bq_nil))))) (fun _ _ _ h => h))
    (bss_cons (bs_un (i := 4) (bs_for (passes_of rfl) rfl (bi_seq rfl (be_op opr_add ops_add (bc (c__law_goals fu KB GB) r0 (by decide) hx rfl rfl rfl (bq_cons (be_name 0) (bq_cons (be_name 4) (bq_cons (be_name 2) bq_nil)))) (be_lst (ba_cons (be_name 3) ba_nil)))) (pg_name (i := 5) nd rfl (by first | exact .inl rfl | exact .inr rfl)) tg_name (bss_one (bs_if (bt_not (bt_val (bc (c__law_pair_right fu KB GB) r0 (by decide) hx rfl rfl rfl (bq_cons (be_name 1) (bq_cons (be_name 3) (bq_cons (be_name 5) bq_nil)))))) (bss_one (bs_ret be_bl)) bss_nil))))
    (bss_cons (bs_set (ps_set (i := 6) nd rfl (by first | exact .inl rfl | exact .inr rfl) (be_op opr_add ops_add (be_op opr_add ops_add (be_name 2) be_int) (bc (c__law_draw fu KB GB) r0 (by decide) hx rfl rfl rfl (bq_cons (be_name 0) (bq_cons be_int bq_nil))))) (fun _ _ _ h => h))
    (bss_cons (bs_if (bt_not (bt_val (bc (c__law_like fu KB GB) r0 (by decide) hx rfl rfl rfl (bq_cons (bc (c_reach fu KB GB) r0 (by decide) hx rfl rfl rfl (bq_cons (be_name 1) (bq_cons (be_tup (ba_cons (be_name 6) (ba_cons be_int ba_nil))) (bq_cons (be_tup (ba_cons (bc (c__law_draw fu KB GB) r0 (by decide) hx rfl rfl rfl (bq_cons (be_name 0) (bq_cons (be_op opr_add ops_add (be_name 2) be_int) bq_nil))) (ba_cons be_int ba_nil))) bq_nil)))) (bq_cons be_non bq_nil))))) (bss_one (bs_ret be_bl)) bss_nil)
    (bss_cons (bs_set (ps_set (i := 7) nd rfl (by first | exact .inl rfl | exact .inr rfl) (be_op opr_add ops_add (be_name 1) (be_tup (ba_cons (be_tup (ba_cons (be_tup (ba_cons (be_op op_sub ops_sub (bc (c__law_draw fu KB GB) r0 (by decide) hx rfl rfl rfl (bq_cons (be_name 0) (bq_cons be_int bq_nil))) be_int) (ba_cons be_int ba_nil))) (ba_cons (be_tup (ba_cons be_int (ba_cons be_int ba_nil))) ba_nil))) ba_nil)))) (fun _ _ _ h => h))
    (bss_cons (bs_set (ps_set (i := 5) nd rfl (by first | exact .inl rfl | exact .inr rfl) (be_ifExp (bt_cmp (op_neD0 (Nat.lt_of_succ_lt hu)) ops_ne0 (be_name 4) be_dk0 (nomark _)) (bc (c__law_of fu KB GB) r0 (by decide) hx rfl rfl rfl (bq_cons (be_name 0) (bq_cons (be_cb (pe_callTy (cr_list rfl) rfl (no_list KB GB) bb_list (br_cons (be_name 4) br_nil)) cs_list) bq_nil))) (be_name 3))) (fun _ _ _ h => h))
    (bss_cons (bs_set (ps_set (i := 8) nd rfl (by first | exact .inl rfl | exact .inr rfl) (bc (c_reach fu KB GB) r0 (by decide) hx rfl rfl rfl (bq_cons (be_name 1) (bq_cons (be_tup (ba_cons (be_name 3) (ba_cons be_int ba_nil))) (bq_cons (be_tup (ba_cons (be_name 5) (ba_cons be_int ba_nil))) bq_nil))))) (fun _ _ _ h => h))
    (bss_cons (bs_set (ps_set (i := 6) nd rfl (by first | exact .inl rfl | exact .inr rfl) (bc (c_reach fu KB GB) r0 (by decide) hx rfl rfl rfl (bq_cons (be_name 7) (bq_cons (be_tup (ba_cons (be_name 3) (ba_cons be_int ba_nil))) (bq_cons (be_tup (ba_cons (be_name 5) (ba_cons be_int ba_nil))) bq_nil))))) (fun _ _ _ h => h))
    (bss_one (bs_ret (be_and (be_cmp op_notN ops_isnot (be_name 6) be_non (nomark _)) (be_one (be_cmp op_le (ops_cmp _) (be_cb (pe_callB cr_len rfl (no_len KB GB) bb_len (br_cons (be_name 6) br_nil)) cs_len) (be_cb (pe_callB cr_len rfl (no_len KB GB) bb_len (br_cons (be_name 8) br_nil)) cs_len) (nomark _)))))))))))))))))
def mb_law (fu : Nat) : SM := (sSeq (sFor (iArg (fun ds => if ds.length = 1 then rngO ds else none) (aCons (eC (.int 3)) aNil)) (tgN 2) (sUn 1 (sIf (bNot (tOf (eCall 1 (mr__law_right fu) (qCons (eName 1) qNil)))) (sRet (eC (.bl false))) sNext))) (sSeq (sSet 3 (eTup (aCons (eTup (aCons (eTup (aCons (eUn negD (eC (.int 5))) (aCons (eC (.int 1)) aNil))) (aCons (eTup (aCons (eC (.int 0)) (aCons (eC (.int 1)) aNil))) (aCons (eTup (aCons (eC (.int 1)) (aCons (eC (.int 1)) aNil))) aNil)))) (aCons (eTup (aCons (eTup (aCons (eC (.int 1)) (aCons (eC (.int 1)) aNil))) (aCons (eTup (aCons (eC (.int 2)) (aCons (eC (.int 1)) aNil))) aNil))) aNil)))) (sSeq (sSet 4 (eLst (aCons (eCall 3 (mr_reach fu) (qCons (eName 3) (qCons (eTup (aCons (eC (.int 0)) (aCons (eC (.int 1)) aNil))) (qCons (eTup (aCons (eC (.int 1)) (aCons (eC (.int 1)) aNil))) qNil)))) (aCons (eCall 3 (mr_reach fu) (qCons (eName 3) (qCons (eTup (aCons (eC (.int 0)) (aCons (eC (.int 1)) aNil))) (qCons (eTup (aCons (eC (.int 3)) (aCons (eC (.int 1)) aNil))) qNil)))) (aCons (eCall 3 (mr_reach fu) (qCons (eName 3) (qCons (eTup (aCons (eC (.int 0)) (aCons (eC (.int 1)) aNil))) (qCons (eTup (aCons (eC (.int 2)) (aCons (eC (.int 1)) aNil))) qNil)))) aNil))))) (sSeq (sMeth 4 appD (aCons (eCall 3 (mr_reach fu) (qCons (eName 3) (qCons (eTup (aCons (eOp powD (eC (.int 10)) (eC (.int 60))) (aCons (eC (.int 1)) aNil))) (qCons (eTup (aCons (eOp powD (eC (.int 10)) (eC (.int 2))) (aCons (eC (.int 1)) aNil))) qNil)))) aNil) none) (sSeq (sMeth 4 appD (aCons (eCall 3 (mr_reach fu) (qCons (eName 3) (qCons (eTup (aCons (eC (.int 3)) (aCons (eC (.int 1)) aNil))) (qCons (eTup (aCons (eC (.int 3)) (aCons (eC (.int 1)) aNil))) qNil)))) aNil) none) (sUn 4 (sRet (eCall 2 (mr__law_like fu) (qCons (eName 4) (qCons (eLst (aCons (eTup (aCons (eC (.int 1)) aNil)) (aCons (eTup (aCons (eC (.int 1)) (aCons (eC (.int 1)) aNil))) (aCons (eC .non) (aCons (eC .non) (aCons (eTup aNil) aNil)))))) qNil))))))))))
theorem sc_law : FnScope ["_law_script", "_law_state", "_law_lap", "_law_two", "_law_got"] ["_law_script"] (defScope (topS 55)) := ⟨rfl, rfl, rfl, by decide +kernel, rfl, by decide +kernel, by decide +kernel⟩
theorem fn_law (fu : Nat) {f : Addr} {fd : FuncData} (F : Fun (KK w) "law" "law" (topS 55) f fd) (KB : (KK w).In base) (GB : base.Ns mainGlobals mg)
    (run : ∀ ns : List Int, ns.length ≤ 63 → ∃ z ls', mb_law fu (none :: some (false, .st) :: List.replicate 3 none) (ls0 ns) = .ok (.rt z) ls' ∧ z = (.sh, .bl true)) : FnG P w (KK w) mg base (L2.CX P w) 10 f fd ["_law_script"] (spLawB (KK w)) := by
  obtain ⟨fb, fdb, FB, mB, kB, bB⟩ := fb__law_begin (P := P) KB GB
  refine fnG_of F sc_law (fun vs H Q E h => by obtain ⟨a, ns, rfl, _⟩ := h; rfl) fun cdv A fr0 s H vs Q E r0 h => ⟨_, ?_, read_law (exC := fun _ => none) (W := WF) (E2 := WE WF) (n := 3) rfl h run⟩
  have hu : (A.deeper (envOfC "law" (defScope (topS 55)) s.heap.objs.size f cdv)).units + 1 < cLine := by have := r0.un; omega
  have hu64 : (A.deeper (envOfC "law" (defScope (topS 55)) s.heap.objs.size f cdv)).units + 64 < cLine := by have := r0.un; omega
  have hu65 : (A.deeper (envOfC "law" (defScope (topS 55)) s.heap.objs.size f cdv)).units + 65 < cLine := by have := r0.un; omega
  have nd := sc_law.nd
  have hx := fun σ => passF (X := cxOf (L2.CX P w) P w (KK w) mg base ["_law_script", "_law_state", "_law_lap", "_law_two", "_law_got"] "law" (defScope (topS 55)) f cdv A fr0 s H E) σ
  refine pss_cons (ps_set (i := 1) nd rfl (by first | exact .inl rfl | exact .inr rfl) (pe_callG (FB.mono (by decide)) r0 rfl mB kB bB hx (pa_cons (pe_var (i := 0) rfl (by first | exact Or.inl rfl | exact Or.inr (Or.inl rfl))) pa_nil))) (pss_any fun sa O H0 stt => ?_)
  unfold mb_law
  exact (bss_cons (bs_for (passes_of rfl) rfl (bi_rng1 rfl (no_range KB GB) (ba_cons be_int ba_nil)) (pg_name (i := 2) nd rfl (by first | exact .inl rfl | exact .inr rfl)) tg_name (bss_one (bs_un (i := 1) (bs_if (bt_not (bt_val (bc (c__law_right fu KB GB) r0 (by decide) hx rfl rfl rfl (bq_cons (be_name 1) bq_nil)))) (bss_one (bs_ret be_bl)) bss_nil))))
    (bss_cons (bs_set (ps_set (i := 3) nd rfl (by first | exact .inl rfl | exact .inr rfl) (be_tup (ba_cons (be_tup (ba_cons (be_tup (ba_cons (be_neg be_int) (ba_cons be_int ba_nil))) (ba_cons (be_tup (ba_cons be_int (ba_cons be_int ba_nil))) (ba_cons (be_tup (ba_cons be_int (ba_cons be_int ba_nil))) ba_nil)))) (ba_cons (be_tup (ba_cons (be_tup (ba_cons be_int (ba_cons be_int ba_nil))) (ba_cons (be_tup (ba_cons be_int (ba_cons be_int ba_nil))) ba_nil))) ba_nil)))) (fun _ _ _ h => h))
    (bss_cons (bs_set (ps_set (i := 4) nd rfl (by first | exact .inl rfl | exact .inr rfl) (be_lst (ba_cons (bc (c_reach fu KB GB) r0 (by decide) hx rfl rfl rfl (bq_cons (be_name 3) (bq_cons (be_tup (ba_cons be_int (ba_cons be_int ba_nil))) (bq_cons (be_tup (ba_cons be_int (ba_cons be_int ba_nil))) bq_nil)))) (ba_cons (bc (c_reach fu KB GB) r0 (by decide) hx rfl rfl rfl (bq_cons (be_name 3) (bq_cons (be_tup (ba_cons be_int (ba_cons be_int ba_nil))) (bq_cons (be_tup (ba_cons be_int (ba_cons be_int ba_nil))) bq_nil)))) (ba_cons (bc (c_reach fu KB GB) r0 (by decide) hx rfl rfl rfl (bq_cons (be_name 3) (bq_cons (be_tup (ba_cons be_int (ba_cons be_int ba_nil))) (bq_cons (be_tup (ba_cons be_int (ba_cons be_int ba_nil))) bq_nil)))) ba_nil))))) (fun _ _ _ h => h))
    (bss_cons (bs_meth (j := 4) rfl (ps_expr (pe_bm PySem.F.plainAttrs_list PySem.F.slot_list_append PySem.F.type_list_append mt_append (pe_var (i := 4) rfl (by first | exact Or.inl rfl | exact Or.inr (Or.inl rfl))) (ba_cons (bc (c_reach fu KB GB) r0 (by decide) hx rfl rfl rfl (bq_cons (be_name 3) (bq_cons (be_tup (ba_cons (be_op op_pow ops_pow be_int be_int) (ba_cons be_int ba_nil))) (bq_cons (be_tup (ba_cons (be_op op_pow ops_pow be_int be_int) (ba_cons be_int ba_nil))) bq_nil)))) ba_nil))) ms_app)
    (bss_cons (bs_meth (j := 4) rfl (ps_expr (pe_bm PySem.F.plainAttrs_list PySem.F.slot_list_append PySem.F.type_list_append mt_append (pe_var (i := 4) rfl (by first | exact Or.inl rfl | exact Or.inr (Or.inl rfl))) (ba_cons (bcK (ck_reach fu KB GB) r0 (by decide) hx rfl rfl rfl (bk_cons (be_name 3) (bk_cons (be_tup (ba_cons be_int (ba_cons be_int ba_nil))) (bk_cons (be_tup (ba_cons be_int (ba_cons be_int ba_nil))) bk_nil)))) ba_nil))) ms_app)
    (bss_one (bs_un (i := 4) (bs_ret (bc (c__law_like fu KB GB) r0 (by decide) hx rfl rfl rfl (bq_cons (be_name 4) (bq_cons (be_lst (ba_cons (be_tup (ba_cons be_int ba_nil)) (ba_cons (be_tup (ba_cons be_int (ba_cons be_int ba_nil))) (ba_cons be_non (ba_cons be_non (ba_cons (be_tup ba_nil) ba_nil)))))) bq_nil)))))))))))
end
theorem holds_of (fu : Nat) (run : ∀ ns : List Int, ns.length ≤ 63 → ∃ z ls', mb_law fu (none :: some (false, .st) :: List.replicate 3 none) (ls0 ns) = .ok (.rt z) ls' ∧ z = (.sh, .bl true)) : PySem.Challenge.rw_stepswithin_k82_whole_least_words_to_goa.Holds := by
  refine head ?_
  refine walkG (l := PySem.Challenge.rw_stepswithin_k82_whole_least_words_to_goa) (n := 63) (k := 10) (x := "_law_script") (CX := fun w => L2.CX PySem.Challenge.rw_stepswithin_k82_whole_least_words_to_goa.prog w) (sp := fun w => spLawB (KK w)) rfl (by decide) rfl ⟨⟨rfl, by decide, by decide⟩, rfl⟩ (fun w h Y => PySem.W.kIn_of Y) ?F (fun w H a ns hl _ hS => ⟨a, ns, rfl, hS, hl, fun _ => rfl⟩) (fun w H s e s2 => noX_L2)
  case F =>
    intro w mg fa h KX G hmg
    obtain ⟨f, fd, h1, F⟩ := (df_law w).ex
    have e : fa = f := by
      have e1 : mg "law" = some (.ref fa) := hmg
      rw [PySem.W.mg_of KX G h1] at e1
      cases e1
      rfl
    subst e
    refine ⟨fd, fun s u => ?_, fun base KB GB => fn_law fu F KB GB run⟩
    obtain ⟨oc, od, kV, doc, pm, an, cdv, ct, osl, rfl, lk, hcd⟩ := F.ex
    exact .of_eq rfl
end BL
end

section
set_option Elab.async false
set_option linter.all false
set_option maxRecDepth 100000
set_option maxHeartbeats 4000000
namespace BL
open PySem PySem.Spec PyProof.Rows L2
abbrev numD (c : Int) : D := .tup [.int c, .int 1]
abbrev stepD (cs : List Int) : D := .tup (cs.map numD)
abbrev stepsD (ss : List (List Int)) : D := .tup (ss.map stepD)
def rngI (lo : Int) (n : Nat) : List Int := (List.range n).map fun (k : Nat) => lo + (k : Int)
def tolds : List (List Int) :=
  (rngI (-3) 7).flatMap (fun c => [2, -2, 3, -3].map fun l => [c, l]) ++
  (rngI (-3) 7).flatMap (fun c => (rngI (-2) 5).flatMap fun d => [1, -1, 2].flatMap fun l => [[c, d, l], [c, d, 0, l]])
/-- the law's own bound of one told, by its formula -/
def sizeOk (cs : List Int) (w : Nat) : Bool :=
  let hi := (cs.getLast?.getD 0).natAbs * w ^ (cs.length - 1)
  let lo := ((List.range (cs.length - 1)).map fun i => (cs.getD i 0).natAbs * w ^ i).sum + w
  decide (lo ≤ hi)
def lbN (cs : List Int) : Nat → Nat → Nat
  | 0, w => w
  | n + 1, w => if sizeOk cs w = true then w else lbN cs n (w + 1)
def lb (cs : List Int) : Int := lbN cs 20 1
def sizeHi (cs : List Int) : Int := ((cs.getLast?.getD 0).natAbs * (lb cs).toNat ^ (cs.length - 1) : Nat)
def sizeLo (cs : List Int) : Int := (((List.range (cs.length - 1)).map fun i => (cs.getD i 0).natAbs * (lb cs).toNat ^ i).sum + (lb cs).toNat : Nat)
theorem all_of {f g : List Int → Res (Fg × D)} (h : tolds.map f = tolds.map g) : ∀ cs ∈ tolds, f cs = g cs := List.map_inj_left.mp h
theorem k_step (ls : LS) : ∀ cs ∈ tolds, mr_is_step 5000 [stepD cs] ls = .ok (.sh, .bl true) ls := all_of (by kernel_rfl)
theorem k_grow (ls : LS) : ∀ cs ∈ tolds, mr_is_growing 5000 [stepD cs] ls = .ok (.sh, .bl true) ls := all_of (by kernel_rfl)
theorem k_poly (ls : LS) : ∀ cs ∈ tolds, mr_as_poly 5000 [stepD cs] ls = .ok (.sh, .tup [.lst (cs.map .int), .int 1]) ls := all_of (by kernel_rfl)
theorem k_lb (ls : LS) : ∀ cs ∈ tolds, mr_least_bound 5000 [.tup [.lst (cs.map .int), .int 1]] ls = .ok (.sh, .int (lb cs)) ls := all_of (by kernel_rfl)
/-- the body of the law's own loop -/
def bodyMost : SM := (sSeq (sSet 3 (eC (.int 1))) (sSeq (sTup [4, 5] (eCall 2 (mr__law_size_at 5000) (qCons (eName 2) (qCons (eName 3) qNil)))) (sSeq (sWhile (tOf (eCall 2 (mr__law_less 5000) (qCons (eName 4) (qCons (eName 5) qNil)))) (sSeq (sSet 3 (eOp addD (eName 3) (eC (.int 1)))) (sTup [4, 5] (eCall 2 (mr__law_size_at 5000) (qCons (eName 2) (qCons (eName 3) qNil))))) 5000) (sSet 1 (eCB max2D (rCons (eName 1) (rCons (eName 3) aNil)))))))
def envMost (a : Option (Bool × D)) (m : Int) (cs : List Int) : Env1 := [a, some (false, .int m), some (false, stepD cs), some (false, .int (lb cs)), some (false, .tup [.int (sizeHi cs), .int 1]), some (false, .tup [.int (sizeLo cs), .int 1])]
theorem k_most (a s3 s4 s5 : Option (Bool × D)) (m : Int) (ls : LS) : ∀ cs ∈ tolds, bodyMost [a, some (false, .int m), some (false, stepD cs), s3, s4, s5] ls = .ok (.nx (envMost a (if lb cs > m then lb cs else m) cs)) ls :=
  List.map_inj_left.mp (by kernel_rfl)
theorem k_lb1 : ∀ cs ∈ tolds, 1 ≤ lb cs ∧ lb cs ≤ 20 := by decide +kernel
theorem k_small : ∀ cs ∈ tolds, cs.length ≤ 4 ∧ 2 ≤ cs.length ∧ ∀ c ∈ cs, -3 ≤ c ∧ c ≤ 3 := by decide +kernel
end BL
end

section
set_option Elab.async false
set_option linter.all false
set_option maxRecDepth 100000
set_option maxHeartbeats 4000000
namespace BL
open PySem PySem.Spec PyProof.Rows L2

theorem lg_lt {n : Nat} {k : Nat} (h : n < 2 ^ k) : n.log2 ≤ k := by
  by_cases e : n = 0
  · subst e; simp
  · exact Nat.le_of_lt ((Nat.log2_lt e).mpr h)
theorem mul_ok {a b : Int} (ha : a.natAbs < 2 ^ 300) (hb : b.natAbs < 2 ^ 300) : a.natAbs.log2 + b.natAbs.log2 < 1000000 := by
  have h1 := lg_lt ha
  have h2 := lg_lt hb
  omega
theorem fm {a b : Int} (hb : 0 < b) : 0 ≤ a.fmod b ∧ a.fmod b < b := ⟨Int.fmod_nonneg_of_pos _ hb, Int.fmod_lt_of_pos _ hb⟩
structure LOk (b : Nat) (s : LS) : Prop where
  on : s.on = true
  ll : s.lefts.length = s.cells.length
  ps : 0 < s.cells.length
  h0 : 0 ≤ s.here
  hb : s.here + b ≤ 1000000
theorem LOk.mono {a b : Nat} {s : LS} (h : LOk b s) (hab : a ≤ b) : LOk a s := ⟨h.on, h.ll, h.ps, h.h0, by have := h.hb; omega⟩
theorem run_mixed (c k : Int) (hk : 0 ≤ k ∧ k ≤ 2000000) (s : LS) : ∃ v, mr__law_mixed 5000 [.int c, .int k] s = .ok (.sh, .int v) s ∧ 0 ≤ v ∧ v < 2147483629 := by
  have h1 := fm (a := c) (b := 2147483647) (by decide)
  have hkk : 2 * k * k ≤ 2 * 2000000 * 2000000 := by
    have : 2 * k * k ≤ 2 * 2000000 * k := Int.mul_le_mul_of_nonneg_right (by omega) hk.1
    have : 2 * 2000000 * k ≤ 2 * 2000000 * 2000000 := Int.mul_le_mul_of_nonneg_left hk.2 (by omega)
    omega
  have hkk0 : 0 ≤ 2 * k * k := Int.mul_nonneg (by omega) hk.1
  have e1 : (2 : Int).natAbs.log2 + k.natAbs.log2 < 1000000 := mul_ok (by decide) (by omega)
  have e2 : (2 * k).natAbs.log2 + k.natAbs.log2 < 1000000 := mul_ok (by omega) (by omega)
  have e3 : (c.fmod 2147483647).natAbs.log2 + (48271 + 2 * k * k).natAbs.log2 < 1000000 := mul_ok (by omega) (by omega)
  have e4 : (69621 : Int).natAbs.log2 + k.natAbs.log2 < 1000000 := mul_ok (by decide) (by omega)
  have h2 := fm (a := c.fmod 2147483647 * (48271 + 2 * k * k) + 69621 * k + 11) (b := 2147483647) (by decide)
  have e5 : ((c.fmod 2147483647 * (48271 + 2 * k * k) + 69621 * k + 11).fmod 2147483647).natAbs.log2 + (69621 : Int).natAbs.log2 < 1000000 := mul_ok (by omega) (by decide)
  refine ⟨(((c.fmod 2147483647 * (48271 + 2 * k * k) + 69621 * k + 11).fmod 2147483647) * 69621).fmod 2147483629, ?_, fm (by decide)⟩
  have f1 : Nat.log2 2 + k.natAbs.log2 < 1000000 := e1
  have f4 : Nat.log2 69621 + k.natAbs.log2 < 1000000 := e4
  have f5 : ((c.fmod 2147483647 * (48271 + 2 * k * k) + 69621 * k + 11).fmod 2147483647).natAbs.log2 + Nat.log2 69621 < 1000000 := e5
  simp only [mr__law_mixed, mirOf_ev, mb__law_mixed]
  simp [f1, e2, e3, f4, f5]
theorem at_fmod {α : Type} {xs : List α} (hp : 0 < xs.length) (h : Int) : ∃ x k, atI xs (h.fmod xs.length) = some x ∧ ixN xs.length (h.fmod xs.length) = some k := by
  obtain ⟨h1, h2⟩ := fm (a := h) (b := xs.length) (by omega)
  have h3 : (h.fmod xs.length).toNat < xs.length := by omega
  refine ⟨xs[(h.fmod xs.length).toNat], (h.fmod xs.length).toNat, ?_, ?_⟩
  · unfold atI ixN
    rw [if_pos h1, if_pos h2]
    simp [h3]
  · unfold ixN
    rw [if_pos h1, if_pos h2]
theorem run_draw {b : Nat} {s : LS} {n : Int} (h : LOk (b + 1) s) (hn : 1 ≤ n) (hn2 : n ≤ 10 ^ 80) : ∃ v s', mr__law_draw 5000 [.st, .int n] s = .ok (.sh, .int v) s' ∧ 0 ≤ v ∧ v < n ∧ LOk b s' := by
  obtain ⟨on, cells, lefts, here⟩ := s
  obtain ⟨on0, ll, ps, h0, hb⟩ := h
  dsimp only at on0 ll ps h0 hb
  subst on0
  obtain ⟨left, k, a1, a2⟩ := at_fmod (xs := lefts) (by rw [ll]; exact ps) here
  obtain ⟨cell, k', a3, a4⟩ := at_fmod (xs := cells) ps here
  rw [ll] at a1 a2
  have hl0 : cells ≠ [] := List.length_pos_iff.mp ps
  have n0 : n ≠ 0 := by omega
  have h1 : 0 ≤ here + 1 := by omega
  have n9 : n.natAbs.log2 < 9000 := by
    have : n.natAbs < 2 ^ 300 := by omega
    have := lg_lt this
    omega
  by_cases hl : 0 < left
  · refine ⟨left.fmod n, ⟨true, cells, lefts.set k (left.fdiv n), here + 1⟩, ?_, (fm (by omega)).1, (fm (by omega)).2, ⟨rfl, by simpa using ll, ps, h1, by show here + 1 + b ≤ _; omega⟩⟩
    simp [mr__law_draw, mirOf_ev, mb__law_draw, eStAt, eStLen, eStLeft, eStCell, sStAt, sStLeft, stAt, ll, a1, a2, hl, n0, n9, h1, hl0]
  · obtain ⟨v1, m1, b1, b2⟩ := run_mixed cell here (by omega) ⟨true, cells, lefts, here + 1⟩
    obtain ⟨v2, m2, b3, b4⟩ := run_mixed v1 (40 + here) (by omega) ⟨true, cells, lefts, here + 1⟩
    obtain ⟨v3, m3, b5, b6⟩ := run_mixed v2 (7 + here) (by omega) ⟨true, cells, lefts, here + 1⟩
    have e1 : v2.natAbs.log2 + Nat.log2 2147483647 < 1000000 := mul_ok (b := 2147483647) (by omega) (by decide)
    have e2 : Nat.log2 64 < 9000 := by decide
    refine ⟨((v2 * 2147483647 + v3).fdiv 64).fmod n, ⟨true, cells, lefts, here + 1⟩, ?_, (fm (by omega)).1, (fm (by omega)).2, ⟨rfl, ll, ps, h1, by show here + 1 + b ≤ _; omega⟩⟩
    simp [mr__law_draw, mirOf_ev, mb__law_draw, eStAt, eStLen, eStLeft, eStCell, sStAt, sStLeft, stAt, ll, a1, a2, a3, hl, n0, n9, h1, hl0, m1, m2, m3, e1, e2]
end BL
end

section
set_option Elab.async false
set_option linter.all false
set_option maxRecDepth 100000
set_option maxHeartbeats 4000000
namespace BL
open PySem PySem.Spec PyProof.Rows L2
/-- a row of drawn steps -/
structure Row (ss : List (List Int)) : Prop where
  all : ∀ cs ∈ ss, cs ∈ tolds
  pos : 1 ≤ ss.length
  few : ss.length ≤ 8
theorem enum_loop {P : List Int → Prop} {m : SM} {ls : LS} {a : Option (Bool × D)} (h : ∀ cs, P cs → ∀ (i : Nat), m [a, some (false, .int i), some (false, stepD cs)] ls = .ok (.nx [a, some (false, .int i), some (false, stepD cs)]) ls) :
    ∀ (ss : List (List Int)) (i : Nat) (s1 s2 : Option (Bool × D)), (∀ cs ∈ ss, P cs) → ∃ t1 t2, forL (tgT [1, 2]) m (enumD i (ss.map stepD)) [a, s1, s2] ls = .ok (.nx [a, t1, t2]) ls
  | [], i, s1, s2, _ => ⟨s1, s2, rfl⟩
  | cs :: ss, i, s1, s2, hp => by
    obtain ⟨t1, t2, ih⟩ := enum_loop h ss (i + 1) (some (false, .int i)) (some (false, stepD cs)) fun c hc => hp c (List.mem_cons_of_mem _ hc)
    refine ⟨t1, t2, ?_⟩
    rw [List.map_cons, enumD, forL_cons]
    have e := h cs (hp cs List.mem_cons_self) i
    simp only [tgT_ev, List.length_cons, List.length_nil, if_true, setAll_cons, setAll_nil, List.set_cons_succ, List.set_cons_zero]
    rw [e]
    exact ih
theorem run_need_row {ss : List (List Int)} (R : Row ss) (ls : LS) : mr_need_row 5000 [stepsD ss] ls = .ok (.sh, stepsD ss) ls := by
  have h1 : ∀ cs, cs ∈ tolds → ∀ (i : Nat), (sIf (bNot (tOf (eCall 1 (mr_is_step 5000) (qCons (eName 2) qNil)))) sBad sNext) [some (false, stepsD ss), some (false, .int i), some (false, stepD cs)] ls = .ok (.nx [some (false, stepsD ss), some (false, .int i), some (false, stepD cs)]) ls := fun cs hc i => by
    simp [k_step ls cs hc]
  obtain ⟨t1, t2, e⟩ := enum_loop (ls := ls) h1 ss 0 none none R.all
  have p1 : (1 : Int) ≤ ss.length := by have := R.pos; omega
  have p2 : (ss.length : Int) ≤ 8 := by have := R.few; omega
  simp [mr_need_row, mirOf_ev, mb_need_row, p1, p2, e]
theorem run_need_choices {ss : List (List Int)} (R : Row ss) (ls : LS) : mr_need_choices 5000 [stepsD ss] ls = .ok (.sh, stepsD ss) ls := by
  have h1 : ∀ cs, cs ∈ tolds → ∀ (i : Nat), (sIf (bNot (tOf (eCall 1 (mr_is_growing 5000) (qCons (eName 2) qNil)))) sBad sNext) [some (false, stepsD ss), some (false, .int i), some (false, stepD cs)] ls = .ok (.nx [some (false, stepsD ss), some (false, .int i), some (false, stepD cs)]) ls := fun cs hc i => by
    simp [k_grow ls cs hc]
  obtain ⟨t1, t2, e⟩ := enum_loop (ls := ls) h1 ss 0 none none R.all
  simp [mr_need_choices, mirOf_ev, mb_need_choices, run_need_row R, e]
/-- a comprehension that does the same to each -/
theorem lc_map {α : Type} {P : α → Prop} {f : Env1 → M (Fg × D)} {ρ : Env1} {i : Nat} {g : α → D} {h : α → D} {ls : LS} (hf : ∀ x, P x → ∃ fg, fg ≠ Fg.bo ∧ f (ρ.set i (some (false, g x))) ls = .ok (fg, h x) ls) :
    ∀ (xs : List α) (acc : List D), (∀ x ∈ xs, P x) → acc.length + xs.length ≤ 16777216 → lcL (tgN i) bYes f ρ (xs.map g) acc ls = .ok (acc ++ xs.map h) ls
  | [], acc, _, _ => by simp
  | x :: xs, acc, hp, hl => by
    obtain ⟨fg, nb, e⟩ := hf x (hp x List.mem_cons_self)
    have ih := lc_map hf xs (acc ++ [h x]) (fun y hy => hp y (List.mem_cons_of_mem _ hy)) (by simp at hl ⊢; omega)
    have hz : acc.length < sizeLine := by rw [sizeLine_eq]; simp at hl; omega
    rw [List.map_cons, lcL_cons]
    simp [e, nb, hz, ih]
def bndS (ss : List (List Int)) : Int := maxI (ss.map lb)
theorem intsD_map (ns : List Int) : intsD (ns.map D.int) = some ns := by
  induction ns with
  | nil => rfl
  | cons n ns ih => simp [intsD, ih]
theorem intsD_fun {α : Type} (f : α → Int) (xs : List α) : intsD (xs.map fun x => D.int (f x)) = some (xs.map f) := by
  induction xs with
  | nil => rfl
  | cons n ns ih => simp [intsD, ih]
theorem intsD_comp {α : Type} (f : α → Int) (xs : List α) : intsD (xs.map (D.int ∘ f)) = some (xs.map f) := by
  induction xs with
  | nil => rfl
  | cons n ns ih => simp [intsD, ih]
theorem run_bound_of {ss : List (List Int)} (R : Row ss) (ls : LS) : mr_bound_of 5000 [stepsD ss] ls = .ok (.sh, .int (bndS ss)) ls := by
  have e := lc_map (P := fun cs => cs ∈ tolds) (f := eCall 1 (mr_least_bound 5000) (qCons (eCall 1 (mr_as_poly 5000) (qCons (eName 1) qNil)) qNil)) (ρ := [some (false, stepsD ss), none]) (i := 1) (g := stepD) (h := fun cs => .int (lb cs)) (ls := ls)
    (fun cs hc => ⟨.sh, by decide, by simp [k_poly ls cs hc, k_lb ls cs hc]⟩) ss [] R.all (by have := R.few; simp; omega)
  have hne : ss ≠ [] := by have := R.pos; intro z; subst z; simp at this
  have e2 : ss.map (fun cs => D.int (lb cs)) = (ss.map lb).map D.int := by simp
  simp [mr_bound_of, mirOf_ev, mb_bound_of, e]
  simp [maxLD, intsD_fun, intsD_comp, hne, bndS]
theorem run_whole_numbers {ss : List (List Int)} (R : Row ss) (ls : LS) : mr_whole_numbers 5000 [stepsD ss] ls = .ok (.fr, .lst (ss.map fun cs => .lst (cs.map .int))) ls := by
  have e := lc_map (P := fun cs => cs ∈ tolds) (f := eLc (iSeq (eName 1)) (tgN 2) bYes (eOp ixD (eName 2) (eC (.int 0))) [2]) (ρ := [some (false, stepsD ss), none, none]) (i := 1) (g := stepD) (h := fun cs => .lst (cs.map .int)) (ls := ls)
    (fun cs hc => ⟨.fr, by decide, by
      have e := lc_map (P := fun _ => True) (f := eOp ixD (eName 2) (eC (.int 0))) (ρ := [some (false, stepsD ss), some (false, stepD cs), none]) (i := 2) (g := numD) (h := fun c => .int c) (ls := ls) (fun c _ => ⟨.sh, by decide, by simp [atI, ixN]⟩) cs [] (fun _ _ => trivial) (by have := (k_small cs hc).1; simp; omega)
      simp [e]⟩) ss [] R.all (by have := R.few; simp; omega)
  simp [mr_whole_numbers, mirOf_ev, mb_whole_numbers, e]
theorem run_need_number (c : Int) (hc : -1000000000000000000000000000000000000000000000000000000000000 ≤ c ∧ c ≤ 1000000000000000000000000000000000000000000000000000000000000) (ls : LS) : mr_need_number 5000 [numD c] ls = .ok (.sh, numD c) ls := by
  have e0 : ∀ a lo hi : Int, mr_is_from 5000 [.int a, .int lo, .int hi] ls = .ok (.sh, .bl (decide (lo ≤ a) && decide (a ≤ hi))) ls := fun a lo hi => by
    simp [mr_is_from, mirOf_ev, mb_is_from, Bool.and_comm]
  have e : mr_is_number 5000 [numD c] ls = .ok (.sh, .bl true) ls := by
    simp [mr_is_number, mirOf_ev, mb_is_number, e0, atI, ixN, hc.1, hc.2]
  simp [mr_need_number, mirOf_ev, mb_need_number, e]
theorem run_need_whole (c : Int) (hc : -1000000000000000000000000000000000000000000000000000000000000 ≤ c ∧ c ≤ 1000000000000000000000000000000000000000000000000000000000000) (ls : LS) : mr_need_whole 5000 [numD c] ls = .ok (.sh, .int c) ls := by
  simp [mr_need_whole, mirOf_ev, mb_need_whole, run_need_number c hc ls, atI, ixN]
abbrev wide60 (c : Int) : Prop := -1000000000000000000000000000000000000000000000000000000000000 ≤ c ∧ c ≤ 1000000000000000000000000000000000000000000000000000000000000
abbrev rowsD (ss : List (List Int)) : D := .lst (ss.map fun cs => .lst (cs.map .int))
theorem run_asked_of {ss : List (List Int)} (R : Row ss) (a b : Int) (ha : wide60 a) (hb : wide60 b) (ls : LS) : mr_asked_of 5000 [stepsD ss, numD a, numD b] ls = .ok (.sh, .tup [rowsD ss, .int a, .int b, .int (max (bndS ss) b.natAbs)]) ls := by
  have h4 : 4 ≤ sizeLine := by rw [sizeLine_eq]; omega
  simp [mr_asked_of, mirOf_ev, mb_asked_of, run_need_choices R, run_need_whole a ha, run_need_whole b hb, run_whole_numbers R, run_bound_of R, h4]
/-! ### a step taken -/
def ledF (h f n : Int) : Int := f * h + n
def ledZ (h : Int) (cs : List Int) : Int := cs.reverse.foldl (ledF h) 0
def ledB : Nat → Nat
  | 0 => 0
  | n + 1 => ledB n * 10000 + 3
theorem ledB_le : ∀ k : Nat, k ≤ 4 → ledB k ≤ 3000300030003 := by decide
theorem ledF_small {h f n : Int} {k : Nat} (hh : h.natAbs ≤ 10000) (hf : f.natAbs ≤ ledB k) (hn : -3 ≤ n ∧ n ≤ 3) : (ledF h f n).natAbs ≤ ledB (k + 1) := by
  have h1 : (f * h).natAbs ≤ ledB k * 10000 := by rw [Int.natAbs_mul]; exact Nat.mul_le_mul hf hh
  have h2 : ledB (k + 1) = ledB k * 10000 + 3 := rfl
  unfold ledF
  omega
theorem led_loop {h : Int} (hh : h.natAbs ≤ 10000) {r : Option (Bool × D)} {ls : LS} : ∀ (ys : List Int) (f : Int) (k : Nat) (s3 : Option (Bool × D)), f.natAbs ≤ ledB k → k + ys.length ≤ 4 → (∀ c ∈ ys, -3 ≤ c ∧ c ≤ 3) →
    ∃ t3, forL (tgN 3) (sSet 2 (eOp addD (eOp mulD (eName 2) (eName 1)) (eName 3))) (ys.map D.int) [r, some (false, .int h), some (false, .int f), s3] ls = .ok (.nx [r, some (false, .int h), some (false, .int (ys.foldl (ledF h) f)), t3]) ls
  | [], f, k, s3, _, _, _ => ⟨s3, rfl⟩
  | n :: ys, f, k, s3, hf, hk, hc => by
    have hn := hc n List.mem_cons_self
    obtain ⟨t3, ih⟩ := led_loop hh ys (ledF h f n) (k + 1) (some (false, .int n)) (ledF_small hh hf hn) (by simp at hk ⊢; omega) fun c m => hc c (List.mem_cons_of_mem _ m)
    refine ⟨t3, ?_⟩
    have hb := ledB_le k (by simp at hk; omega)
    have e1 : f.natAbs.log2 + h.natAbs.log2 < 1000000 := mul_ok (by omega) (by omega)
    rw [List.map_cons, forL_cons]
    simp [e1, ih]
    exact ih
theorem led_small {h : Int} (hh : h.natAbs ≤ 10000) {cs : List Int} (hc : cs ∈ tolds) : (ledZ h cs).natAbs ≤ 3000300030003 := by
  obtain ⟨h1, h2, h3⟩ := k_small cs hc
  have go : ∀ (ys : List Int) (f : Int) (k : Nat), f.natAbs ≤ ledB k → (∀ c ∈ ys, -3 ≤ c ∧ c ≤ 3) → (ys.foldl (ledF h) f).natAbs ≤ ledB (k + ys.length) := by
    intro ys
    induction ys with
    | nil => intro f k hf _; simpa using hf
    | cons n ys ih =>
      intro f k hf hc
      have := ih (ledF h f n) (k + 1) (ledF_small hh hf (hc n List.mem_cons_self)) fun c m => hc c (List.mem_cons_of_mem _ m)
      rw [List.foldl_cons, List.length_cons, show k + (ys.length + 1) = k + 1 + ys.length by omega]
      exact this
  have := go cs.reverse 0 0 (by simp) (fun c m => h3 c (by simpa using m))
  have hb := ledB_le (0 + cs.reverse.length) (by simp; omega)
  unfold ledZ
  omega
theorem run_led {h : Int} (hh : h.natAbs ≤ 10000) {cs : List Int} (hc : cs ∈ tolds) (ls : LS) : mr_led 5000 [.lst (cs.map .int), .int h] ls = .ok (.sh, .int (ledZ h cs)) ls := by
  obtain ⟨h1, h2, h3⟩ := k_small cs hc
  obtain ⟨t3, e⟩ := led_loop hh (r := some (false, .lst (cs.map .int))) (ls := ls) cs.reverse 0 0 none (by simp) (by simp; omega) (fun c m => h3 c (by simpa using m))
  rw [List.map_reverse] at e
  simp [mr_led, mirOf_ev, mb_led, e, ledZ]
theorem led_to_loop {h : Int} (hh : h.natAbs ≤ 10000) {r : Option (Bool × D)} {ls : LS} : ∀ (ys : List Int) (f : Int) (k : Nat) (s3 : Option (Bool × D)), f.natAbs ≤ ledB k → k + ys.length ≤ 4 → (∀ c ∈ ys, -3 ≤ c ∧ c ≤ 3) →
    ∃ t3, forL (tgN 3) (sSet 2 (eOp addD (eOp mulD (eName 2) (eName 1)) (eOp ixD (eName 3) (eC (.int 0))))) (ys.map numD) [r, some (false, .int h), some (false, .int f), s3] ls = .ok (.nx [r, some (false, .int h), some (false, .int (ys.foldl (ledF h) f)), t3]) ls
  | [], f, k, s3, _, _, _ => ⟨s3, rfl⟩
  | n :: ys, f, k, s3, hf, hk, hc => by
    have hn := hc n List.mem_cons_self
    obtain ⟨t3, ih⟩ := led_to_loop hh ys (ledF h f n) (k + 1) (some (false, numD n)) (ledF_small hh hf hn) (by simp at hk ⊢; omega) fun c m => hc c (List.mem_cons_of_mem _ m)
    refine ⟨t3, ?_⟩
    have hb := ledB_le k (by simp at hk; omega)
    have e1 : f.natAbs.log2 + h.natAbs.log2 < 1000000 := mul_ok (by omega) (by omega)
    rw [List.map_cons, forL_cons]
    simp [e1, ih, atI, ixN]
    exact ih
theorem run_led_to {h : Int} (hh : h.natAbs ≤ 10000) {cs : List Int} (hc : cs ∈ tolds) (ls : LS) : mr__law_led_to 5000 [stepD cs, .int h] ls = .ok (.sh, .int (ledZ h cs)) ls := by
  obtain ⟨h1, h2, h3⟩ := k_small cs hc
  obtain ⟨t3, e⟩ := led_to_loop hh (r := some (false, stepD cs)) (ls := ls) cs.reverse 0 0 none (by simp) (by simp; omega) (fun c m => h3 c (by simpa using m))
  rw [List.map_reverse] at e
  simp [mr__law_led_to, mirOf_ev, mb__law_led_to, e, ledZ]
theorem run_check_few (b : Int) (hb : 0 ≤ b ∧ b ≤ 999) (ls : LS) : mr_check_few 5000 [.int b] ls = .ok (.sh, .non) ls := by
  have e1 : Nat.log2 2 + b.natAbs.log2 < 1000000 := mul_ok (a := 2) (by decide) (by omega)
  have e2 : ¬ (2000 < 2 * b + 1) := by omega
  simp [mr_check_few, mirOf_ev, mb_check_few, e1, e2]
end BL
end

section
set_option Elab.async false
set_option linter.all false
set_option maxRecDepth 100000
set_option maxHeartbeats 4000000
namespace BL
open PySem PySem.Spec PyProof.Rows L2
/-! ### the search, plainly -/
abbrev BEn := Int × Option (Int × Nat) × List Nat
def keys (C : List BEn) : List Int := C.map (·.1)
def add1 (B h : Int) (w : List Nat) (i : Nat) (cs : List Int) (C : List BEn) : List BEn :=
  if (ledZ h cs).natAbs ≤ B ∧ ledZ h cs ∉ keys C then C ++ [(ledZ h cs, some (h, i), w ++ [i])] else C
def exR (B h : Int) (w : List Nat) : List (List Int) → Nat → List BEn → List BEn
  | [], _, C => C
  | cs :: ss, i, C => exR B h w ss (i + 1) (add1 B h w i cs C)
def stepAt (rw0 : List (List Int)) (B : Int) (C : List BEn) (p : Nat) : List BEn := match C[p]? with
  | some e => exR B e.1 e.2.2 rw0 0 C
  | none => C
def bfs (rw0 : List (List Int)) (B : Int) : Nat → Nat → List BEn → List BEn
  | 0, _, C => C
  | n + 1, p, C => bfs rw0 B n (p + 1) (stepAt rw0 B C p)
/-- words that stay within B -/
inductive PathB (rw0 : List (List Int)) (B s : Int) : List Nat → Int → Prop
  | nil : (s.natAbs : Int) ≤ B → PathB rw0 B s [] s
  | snoc {w : List Nat} {x : Int} {k : Nat} {cs : List Int} : PathB rw0 B s w x → rw0[k]? = some cs → ((ledZ x cs).natAbs : Int) ≤ B → PathB rw0 B s (w ++ [k]) (ledZ x cs)
theorem PathB.mono {rw0 rw0' : List (List Int)} {B B' s x : Int} {w : List Nat} (h : PathB rw0 B s w x) (hb : B ≤ B') (hr : ∀ (k : Nat) (cs : List Int), rw0[k]? = some cs → rw0'[k]? = some cs) : PathB rw0' B' s w x := by
  induction h with
  | nil h => exact .nil (Int.le_trans h hb)
  | snoc _ hk hB ih => exact .snoc ih (hr _ _ hk) (Int.le_trans hB hb)
structure GoodB (rw0 : List (List Int)) (B s : Int) (C : List BEn) : Prop where
  nd : (keys C).Nodup
  path : ∀ e ∈ C, PathB rw0 B s e.2.2 e.1
  par : ∀ (i : Nat) (e : BEn), C[i]? = some e → (e.2.1 = none ∧ e.2.2 = []) ∨ ∃ (j : Nat) (e' : BEn) (k : Nat), j < i ∧ C[j]? = some e' ∧ e.2.1 = some (e'.1, k) ∧ e.2.2 = e'.2.2 ++ [k]
  idx : ∀ e ∈ C, ∀ k ∈ e.2.2, k < rw0.length
theorem PathB.le {rw0 : List (List Int)} {B s x : Int} {w : List Nat} (h : PathB rw0 B s w x) : (x.natAbs : Int) ≤ B := by
  cases h with
  | nil h => exact h
  | snoc _ _ h => exact h
theorem add1_pre (B h : Int) (w : List Nat) (i : Nat) (cs : List Int) (C : List BEn) : ∃ R, add1 B h w i cs C = C ++ R := by
  unfold add1
  split
  · exact ⟨_, rfl⟩
  · exact ⟨[], by simp⟩
theorem exR_pre (B h : Int) (w : List Nat) : ∀ (ss : List (List Int)) (i : Nat) (C : List BEn), ∃ R, exR B h w ss i C = C ++ R
  | [], _, C => ⟨[], by simp [exR]⟩
  | cs :: ss, i, C => by
    obtain ⟨R1, e1⟩ := add1_pre B h w i cs C
    obtain ⟨R2, e2⟩ := exR_pre B h w ss (i + 1) (add1 B h w i cs C)
    exact ⟨R1 ++ R2, by rw [exR, e2, e1, List.append_assoc]⟩
theorem step_pre (rw0 : List (List Int)) (B : Int) (C : List BEn) (p : Nat) : ∃ R, stepAt rw0 B C p = C ++ R := by
  unfold stepAt
  split
  · exact exR_pre ..
  · exact ⟨[], by simp⟩
theorem bfs_pre (rw0 : List (List Int)) (B : Int) : ∀ (n p : Nat) (C : List BEn), ∃ R, bfs rw0 B n p C = C ++ R
  | 0, _, C => ⟨[], by simp [bfs]⟩
  | n + 1, p, C => by
    obtain ⟨R1, e1⟩ := step_pre rw0 B C p
    obtain ⟨R2, e2⟩ := bfs_pre rw0 B n (p + 1) (stepAt rw0 B C p)
    exact ⟨R1 ++ R2, by rw [bfs, e2, e1, List.append_assoc]⟩
theorem GoodB.add {rw0 : List (List Int)} {B s : Int} {C : List BEn} (g : GoodB rw0 B s C) {p i : Nat} {e : BEn} {cs : List Int} (he : C[p]? = some e) (hk : rw0[i]? = some cs) : GoodB rw0 B s (add1 B e.1 e.2.2 i cs C) := by
  unfold add1
  split
  · rename_i h
    have hil : i < rw0.length := (List.getElem?_eq_some_iff.mp hk).1
    have pl : p < C.length := (List.getElem?_eq_some_iff.mp he).1
    have em : e ∈ C := List.mem_of_getElem? he
    refine ⟨?_, fun x hx => ?_, fun j x hx => ?_, fun x hx k hk2 => ?_⟩
    · unfold keys
      rw [List.map_append, List.nodup_append]
      refine ⟨g.nd, by simp, fun a ha b hb => ?_⟩
      simp at hb
      subst hb
      intro z
      exact h.2 (z ▸ ha)
    · rcases List.mem_append.mp hx with hx | hx
      · exact g.path x hx
      · simp at hx
        subst hx
        exact .snoc (g.path e em) hk h.1
    · rcases Nat.lt_or_ge j C.length with hj | hj
      · rw [List.getElem?_append_left hj] at hx
        rcases g.par j x hx with q | ⟨j', e', k, q1, q2, q3⟩
        · exact .inl q
        · exact .inr ⟨j', e', k, q1, by rw [List.getElem?_append_left (by omega)]; exact q2, q3⟩
      · rw [List.getElem?_append_right hj] at hx
        have hj0 : j - C.length = 0 := by
          rcases Nat.eq_zero_or_pos (j - C.length) with z | z
          · exact z
          · rw [List.getElem?_eq_none (by simp; omega)] at hx; cases hx
        rw [hj0] at hx
        cases hx
        exact .inr ⟨p, e, i, by omega, by rw [List.getElem?_append_left pl]; exact he, rfl, rfl⟩
    · rcases List.mem_append.mp hx with hx | hx
      · exact g.idx x hx k hk2
      · simp at hx
        subst hx
        rcases List.mem_append.mp hk2 with q | q
        · exact g.idx e em k q
        · simp at q; omega
  · exact g
theorem GoodB.ex {rw0 : List (List Int)} {B s : Int} {p : Nat} {e : BEn} : ∀ (ss : List (List Int)) (i : Nat) {C : List BEn}, GoodB rw0 B s C → C[p]? = some e → (∀ k cs, ss[k]? = some cs → rw0[i + k]? = some cs) → GoodB rw0 B s (exR B e.1 e.2.2 ss i C)
  | [], _, _, g, _, _ => g
  | cs :: ss, i, C, g, he, hr => by
    obtain ⟨R, e1⟩ := add1_pre B e.1 e.2.2 i cs C
    have pl : p < C.length := (List.getElem?_eq_some_iff.mp he).1
    exact GoodB.ex ss (i + 1) (g.add he (hr 0 cs rfl)) (by rw [e1, List.getElem?_append_left pl]; exact he) fun k c h => by
      have := hr (k + 1) c (by simpa using h)
      rwa [show i + (k + 1) = i + 1 + k by omega] at this
theorem GoodB.step {rw0 : List (List Int)} {B s : Int} {C : List BEn} (g : GoodB rw0 B s C) (p : Nat) : GoodB rw0 B s (stepAt rw0 B C p) := by
  unfold stepAt
  split
  · rename_i e he
    exact g.ex rw0 0 he fun k c h => by simpa using h
  · exact g
theorem GoodB.bfs {rw0 : List (List Int)} {B s : Int} : ∀ (n p : Nat) {C : List BEn}, GoodB rw0 B s C → GoodB rw0 B s (bfs rw0 B n p C)
  | 0, _, _, g => g
  | n + 1, p, _, g => GoodB.bfs n (p + 1) (g.step p)
theorem GoodB.init {rw0 : List (List Int)} {B s : Int} (h : (s.natAbs : Int) ≤ B) : GoodB rw0 B s [(s, none, [])] where
  nd := by simp [keys]
  path := fun e he => by simp at he; subst he; exact .nil h
  par := fun i e he => by
    match i with
    | 0 => simp at he; subst he; exact .inl ⟨rfl, rfl⟩
    | i + 1 => simp at he
  idx := fun e he k hk => by simp at he; subst he; simp at hk
theorem nodup_le : ∀ (n : Nat) (l : List Nat), l.Nodup → (∀ x ∈ l, x < n) → l.length ≤ n
  | 0, l, _, h => by
    cases l with
    | nil => simp
    | cons a l => exact absurd (h a List.mem_cons_self) (by omega)
  | n + 1, l, nd, h => by
    by_cases hm : n ∈ l
    · have h1 := List.length_erase_of_mem hm
      have h2 := nodup_le n (l.erase n) (nd.sublist List.erase_sublist) fun x hx => by
        have := (nd.mem_erase_iff).mp hx
        have := h x this.2
        omega
      have : 0 < l.length := List.length_pos_of_mem hm
      omega
    · exact Nat.le_succ_of_le (nodup_le n l nd fun x hx => by
        have := h x hx
        have : x ≠ n := fun z => hm (z ▸ hx)
        omega)
theorem GoodB.len {rw0 : List (List Int)} {B s : Int} {C : List BEn} (g : GoodB rw0 B s C) (hB : 0 ≤ B) : (C.length : Int) ≤ 2 * B + 1 := by
  have h := nodup_le (2 * B + 1).toNat ((keys C).map fun x => (x + B).toNat) ?_ ?_
  · simp [keys] at h; omega
  · refine List.Pairwise.map (R := fun a b => a ≠ b ∧ (a.natAbs : Int) ≤ B ∧ (b.natAbs : Int) ≤ B) _ (fun a b h => by omega) ?_
    refine List.Pairwise.imp_of_mem (fun {a b} ha hb h => ?_) g.nd
    obtain ⟨e1, h1, rfl⟩ := List.mem_map.mp ha
    obtain ⟨e2, h2, rfl⟩ := List.mem_map.mp hb
    exact ⟨h, (g.path e1 h1).le, (g.path e2 h2).le⟩
  · intro x hx
    obtain ⟨a, ha, rfl⟩ := List.mem_map.mp hx
    obtain ⟨e1, h1, rfl⟩ := List.mem_map.mp ha
    have := (g.path e1 h1).le
    omega
/-! the order of the search -/
structure LayB (rw0 : List (List Int)) (B : Int) (p : Nat) (C : List BEn) : Prop where
  up : ∀ (i j : Nat) (a b : BEn), i ≤ j → C[i]? = some a → C[j]? = some b → a.2.2.length ≤ b.2.2.length
  top : ∀ (e : BEn), C[p]? = some e → ∀ a ∈ C, a.2.2.length ≤ e.2.2.length + 1
  don : ∀ (j : Nat) (e : BEn), j < p → C[j]? = some e → ∀ cs ∈ rw0, ((ledZ e.1 cs).natAbs : Int) ≤ B → ∃ a ∈ C, a.1 = ledZ e.1 cs ∧ a.2.2.length ≤ e.2.2.length + 1
/-- while place p is being looked at: ss is left -/
structure MidB (B : Int) (p : Nat) (e : BEn) (C : List BEn) : Prop where
  at_ : C[p]? = some e
  up : ∀ (i j : Nat) (a b : BEn), i ≤ j → C[i]? = some a → C[j]? = some b → a.2.2.length ≤ b.2.2.length
  top : ∀ a ∈ C, a.2.2.length ≤ e.2.2.length + 1
theorem MidB.add {B : Int} {p i : Nat} {e : BEn} {C : List BEn} {cs : List Int} (m : MidB B p e C) : MidB B p e (add1 B e.1 e.2.2 i cs C) := by
  have pl : p < C.length := (List.getElem?_eq_some_iff.mp m.at_).1
  unfold add1
  split
  · refine ⟨by rw [List.getElem?_append_left pl]; exact m.at_, fun a b x y hab hx hy => ?_, fun a ha => ?_⟩
    · rcases Nat.lt_or_ge b C.length with hb | hb
      · rw [List.getElem?_append_left hb] at hy
        rw [List.getElem?_append_left (by omega)] at hx
        exact m.up a b x y hab hx hy
      · rw [List.getElem?_append_right hb] at hy
        have hb0 : b - C.length = 0 := by
          rcases Nat.eq_zero_or_pos (b - C.length) with z | z
          · exact z
          · rw [List.getElem?_eq_none (by simp; omega)] at hy; cases hy
        rw [hb0] at hy
        cases hy
        rcases Nat.lt_or_ge a C.length with ha | ha
        · rw [List.getElem?_append_left ha] at hx
          have := m.top x (List.mem_of_getElem? hx)
          simpa using this
        · have : a = b := by omega
          subst this
          rw [List.getElem?_append_right ha, hb0] at hx
          cases hx
          exact Nat.le_refl _
    · rcases List.mem_append.mp ha with ha | ha
      · exact m.top a ha
      · simp at ha; subst ha; simp
  · exact m
theorem MidB.ex {B : Int} {p : Nat} {e : BEn} : ∀ (ss : List (List Int)) (i : Nat) {C : List BEn}, MidB B p e C → MidB B p e (exR B e.1 e.2.2 ss i C) ∧ ∀ cs ∈ ss, ((ledZ e.1 cs).natAbs : Int) ≤ B → ∃ a ∈ exR B e.1 e.2.2 ss i C, a.1 = ledZ e.1 cs ∧ a.2.2.length ≤ e.2.2.length + 1
  | [], _, _, m => ⟨m, fun _ h => nomatch h⟩
  | cs :: ss, i, C, m => by
    obtain ⟨m2, h2⟩ := MidB.ex ss (i + 1) (m.add (i := i) (cs := cs))
    refine ⟨m2, fun c hc hb => ?_⟩
    rcases List.mem_cons.mp hc with rfl | hc
    · obtain ⟨R, e2⟩ := exR_pre B e.1 e.2.2 ss (i + 1) (add1 B e.1 e.2.2 i c C)
      have : ∃ a ∈ add1 B e.1 e.2.2 i c C, a.1 = ledZ e.1 c ∧ a.2.2.length ≤ e.2.2.length + 1 := by
        unfold add1
        split
        · exact ⟨_, List.mem_append_right _ (List.mem_singleton.mpr rfl), rfl, by simp⟩
        · rename_i hn
          have hin : ledZ e.1 c ∈ keys C := Classical.byContradiction fun z => hn ⟨hb, z⟩
          obtain ⟨a, ha, ea⟩ := List.mem_map.mp hin
          exact ⟨a, ha, ea, m.top a ha⟩
      obtain ⟨a, h3, h4, h5⟩ := this
      exact ⟨a, by rw [exR, e2]; exact List.mem_append_left _ h3, h4, h5⟩
    · exact h2 c hc hb
theorem LayB.step {rw0 : List (List Int)} {B : Int} {p : Nat} {C : List BEn} (l : LayB rw0 B p C) : LayB rw0 B (p + 1) (stepAt rw0 B C p) := by
  unfold stepAt
  split
  · rename_i e he
    have m : MidB B p e C := ⟨he, l.up, l.top e he⟩
    obtain ⟨m2, h2⟩ := MidB.ex rw0 0 m
    obtain ⟨R, eR⟩ := exR_pre B e.1 e.2.2 rw0 0 C
    refine ⟨m2.up, fun f hf a ha => ?_, fun j f hj hf cs hc hb => ?_⟩
    · have h3 := m2.up p (p + 1) e f (by omega) m2.at_ hf
      have h4 := m2.top a ha
      omega
    · rcases Nat.lt_or_ge j p with hjp | hjp
      · have pl : p < C.length := (List.getElem?_eq_some_iff.mp he).1
        rw [eR, List.getElem?_append_left (by omega)] at hf
        obtain ⟨a, q1, q2, q3⟩ := l.don j f hjp hf cs hc hb
        exact ⟨a, by rw [eR]; exact List.mem_append_left _ q1, q2, q3⟩
      · have : j = p := by omega
        subst this
        rw [m2.at_] at hf
        cases hf
        exact h2 cs hc hb
  · rename_i hn
    have hl : C.length ≤ p := List.getElem?_eq_none_iff.mp hn
    refine ⟨l.up, fun f hf => ?_, fun j f hj hf => ?_⟩
    · rw [List.getElem?_eq_none (by omega)] at hf; cases hf
    · have hjl : j < C.length := (List.getElem?_eq_some_iff.mp hf).1
      exact l.don j f (by omega) hf
theorem LayB.bfs {rw0 : List (List Int)} {B : Int} : ∀ (n p : Nat) {C : List BEn}, LayB rw0 B p C → LayB rw0 B (p + n) (bfs rw0 B n p C)
  | 0, _, _, l => l
  | n + 1, p, _, l => by
    have := LayB.bfs n (p + 1) l.step
    rwa [show p + 1 + n = p + (n + 1) by omega] at this
theorem LayB.init {rw0 : List (List Int)} {B s : Int} : LayB rw0 B 0 [(s, none, [])] where
  up := fun i j a b hij ha hb => by
    match i, j with
    | 0, 0 => simp at ha hb; subst ha hb; simp
    | i + 1, _ => simp at ha
    | 0, j + 1 => simp at hb
  top := fun e he a ha => by simp at ha; subst ha; simp
  don := fun j e hj => absurd hj (by omega)
/-- the whole search -/
def full (rw0 : List (List Int)) (B s : Int) : List BEn := if (s.natAbs : Int) ≤ B then bfs rw0 B (2 * B + 2).toNat 0 [(s, none, [])] else []
theorem full_good {rw0 : List (List Int)} {B s : Int} : GoodB rw0 B s (full rw0 B s) := by
  unfold full
  split
  · rename_i h; exact GoodB.bfs _ _ (GoodB.init h)
  · exact { nd := by simp [keys], path := fun e h => (nomatch h), par := (fun i e h => by simp at h), idx := fun e h => (nomatch h) }
/-- what can be reached is found, by a word as short -/
theorem full_min {rw0 : List (List Int)} {B s x : Int} {w : List Nat} (h : PathB rw0 B s w x) : ∃ a ∈ full rw0 B s, a.1 = x ∧ a.2.2.length ≤ w.length := by
  have hs : (s.natAbs : Int) ≤ B := by
    induction h with
    | nil h => exact h
    | snoc _ _ _ ih => exact ih
  have hB : 0 ≤ B := by omega
  have g : GoodB rw0 B s (full rw0 B s) := full_good
  have len := g.len hB
  have l : LayB rw0 B (2 * B + 2).toNat (full rw0 B s) := by
    unfold full
    rw [if_pos hs]
    have := LayB.bfs (rw0 := rw0) (B := B) (2 * B + 2).toNat 0 (LayB.init (s := s))
    simpa using this
  induction h with
  | nil _ =>
    obtain ⟨R, e⟩ := bfs_pre rw0 B (2 * B + 2).toNat 0 [(s, none, [])]
    refine ⟨(s, none, []), ?_, rfl, by simp⟩
    unfold full
    rw [if_pos hs, e]
    simp
  | @snoc w y k cs _ hk hb ih =>
    obtain ⟨a, h1, h2, h3⟩ := ih
    obtain ⟨j, hj⟩ := List.getElem?_of_mem h1
    have hjl : j < (full rw0 B s).length := (List.getElem?_eq_some_iff.mp hj).1
    obtain ⟨b, h4, h5, h6⟩ := l.don j a (by omega) hj cs (List.mem_of_getElem? hk) (by rw [h2]; exact hb)
    exact ⟨b, h4, by rw [h5, h2], by simp; omega⟩
end BL
end

section
set_option Elab.async false
set_option linter.all false
set_option maxRecDepth 100000
set_option maxHeartbeats 4000000
namespace BL
open PySem PySem.Spec PyProof.Rows L2
/-! ### the search's dict -/
def dkOf (f : BEn → D) (C : List BEn) : List (Key × D) := C.map fun e => (.inl e.1, f e)
def parD : Option (Int × Nat) → D
  | none => .non
  | some (h, i) => .tup [.int h, .int i]
abbrev parE (e : BEn) : D := parD e.2.1
abbrev wrdD (w : List Nat) : D := .tup (w.map fun (k : Nat) => D.int k)
abbrev wrdE (e : BEn) : D := wrdD e.2.2
abbrev linD (C : List BEn) : D := .lst ((keys C).map .int)
theorem dk_len (f : BEn → D) (C : List BEn) : (dkOf f C).length = C.length := by simp [dkOf]
theorem getK_cons (k : Key) (v : D) (kvs : List (Key × D)) (x : Key) : getK ((k, v) :: kvs) x = if k = x then some v else getK kvs x := by
  unfold getK
  rw [List.find?_cons]
  by_cases h : k = x <;> simp [h]
theorem dk_in (f : BEn → D) (x : Int) : ∀ (C : List BEn), (getK (dkOf f C) (.inl x)).isSome = decide (x ∈ keys C)
  | [] => rfl
  | e :: C => by
    have ih := dk_in f x C
    rw [show dkOf f (e :: C) = (.inl e.1, f e) :: dkOf f C from rfl, getK_cons]
    by_cases h : e.1 = x
    · simp [h, keys]
    · have h1 : ¬ ((Sum.inl e.1 : Key) = .inl x) := fun z => h (Sum.inl.inj z)
      have h2 : ¬ x = e.1 := fun z => h z.symm
      rw [if_neg h1, ih]
      exact decide_eq_decide.mpr ⟨fun m => List.mem_cons_of_mem e.1 m, fun m => (List.mem_cons.mp (show x ∈ e.1 :: keys C from m)).resolve_left h2⟩
theorem dk_at (f : BEn → D) {e : BEn} : ∀ {C : List BEn}, (keys C).Nodup → e ∈ C → getK (dkOf f C) (.inl e.1) = some (f e)
  | a :: C, nd, h => by
    rw [show dkOf f (a :: C) = (.inl a.1, f a) :: dkOf f C from rfl, getK_cons]
    have nd2 : a.1 ∉ keys C ∧ (keys C).Nodup := List.nodup_cons.mp nd
    rcases List.mem_cons.mp h with rfl | h
    · simp
    · have h1 : ¬ ((Sum.inl a.1 : Key) = .inl e.1) := fun z => nd2.1 (by rw [Sum.inl.inj z]; exact List.mem_map.mpr ⟨e, h, rfl⟩)
      rw [if_neg h1]
      exact dk_at f nd2.2 h
theorem dk_no (f : BEn → D) (x : Int) {C : List BEn} (h : x ∉ keys C) : getK (dkOf f C) (.inl x) = none := by
  have := dk_in f x C
  rw [decide_eq_false h] at this
  simpa using this
theorem dk_put (f : BEn → D) {x : Int} {C : List BEn} (h : x ∉ keys C) (v : D) : putD (dkOf f C) (.inl x) v = dkOf f C ++ [(.inl x, v)] := by
  unfold putD
  rw [if_neg]
  intro z
  obtain ⟨kv, h1, h2⟩ := List.any_eq_true.mp z
  obtain ⟨e, h3, rfl⟩ := List.mem_map.mp h1
  exact h (List.mem_map.mpr ⟨e, h3, Sum.inl.inj (of_decide_eq_true h2)⟩)
theorem dk_app (f : BEn → D) (C : List BEn) (e : BEn) : dkOf f (C ++ [e]) = dkOf f C ++ [(.inl e.1, f e)] := by simp [dkOf]
theorem keys_app (C : List BEn) (e : BEn) : keys (C ++ [e]) = keys C ++ [e.1] := by simp [keys]
theorem keys_len (C : List BEn) : (keys C).length = C.length := by simp [keys]
theorem atI_nat {xs : List D} {p : Nat} {d : D} (h : xs[p]? = some d) : atI xs (p : Int) = some d := by
  have hl := (List.getElem?_eq_some_iff.mp h).1
  unfold atI ixN
  rw [if_pos (Int.natCast_nonneg p), if_pos (by omega)]
  simpa using h
theorem lin_at {C : List BEn} {p : Nat} {e : BEn} (h : C[p]? = some e) : atI ((keys C).map D.int) (p : Int) = some (.int e.1) := atI_nat (by simp [keys, h])
theorem ex_len (B h : Int) (w : List Nat) : ∀ (ss : List (List Int)) (i : Nat) (C : List BEn), (exR B h w ss i C).length ≤ C.length + ss.length
  | [], _, C => by simp [exR]
  | cs :: ss, i, C => by
    have := ex_len B h w ss (i + 1) (add1 B h w i cs C)
    have h2 : (add1 B h w i cs C).length ≤ C.length + 1 := by unfold add1; split <;> simp
    rw [exR, List.length_cons]
    omega
/-! ### the program's search -/
abbrev bdWays : SM := (sSeq (sSet 10 (eCall 2 (mr_led 5000) (qCons (eName 9) (qCons (eName 7) qNil)))) (sIf (bAnd (tOf (eOp leD (eCB absD (rCons (eName 10) aNil)) (eName 1))) (tOf (eOp notinO (eName 10) (eName 4)))) (sSeq (sStore 4 (eName 10) (eTup (aCons (eName 7) (aCons (eName 8) aNil)))) (sMeth 5 appD (aCons (eName 10) aNil) none)) sNext))
abbrev lpWays : SM := (sSeq (sSet 7 (eOp ixD (eName 5) (eName 6))) (sSeq (sSet 6 (eOp addD (eName 6) (eC (.int 1)))) (sFor (iArg enumO (aCons (eName 0) aNil)) (tgT [8, 9]) bdWays)))
abbrev cdWays : Env1 → M Bool := (bAnd (tOf (eOp ltD (eName 6) (eCB lenD (rCons (eName 5) aNil)))) (tOf (eOp notinO (eName 3) (eName 4))))
abbrev envWays (ss : List (List Int)) (B s g : Int) (C : List BEn) (p h : Option (Bool × D)) (t8 t9 t10 : Option (Bool × D)) : Env1 := [some (false, rowsD ss), some (false, .int B), some (false, .int s), some (false, .int g), some (true, .dk (dkOf parE C)), some (true, linD C), p, h, t8, t9, t10]
theorem sz24 {n : Nat} (h : n < 16777216) : n < sizeLine := by rw [sizeLine_eq]; exact h
theorem ways_in {s0 : List (List Int)} {B s g h : Int} {w : List Nat} {p : Option (Bool × D)} {ls : LS} (hh : h.natAbs ≤ 10000) : ∀ (ss : List (List Int)) (i : Nat) (C : List BEn) (t8 t9 t10 : Option (Bool × D)), (∀ cs ∈ ss, cs ∈ tolds) → C.length + ss.length < 16777216 →
    ∃ u8 u9 u10, forL (tgT [8, 9]) bdWays (enumD i (ss.map fun cs => .lst (cs.map .int))) (envWays s0 B s g C p (some (false, .int h)) t8 t9 t10) ls = .ok (.nx (envWays s0 B s g (exR B h w ss i C) p (some (false, .int h)) u8 u9 u10)) ls
  | [], i, C, t8, t9, t10, _, _ => ⟨t8, t9, t10, rfl⟩
  | cs :: ss, i, C, t8, t9, t10, hs, hl => by
    have e1 := run_led hh (hs cs List.mem_cons_self) ls
    have hl2 : C.length < sizeLine := sz24 (by omega)
    have h2 : 2 ≤ sizeLine := by rw [sizeLine_eq]; omega
    obtain ⟨u8, u9, u10, ih⟩ := ways_in (w := w) (p := p) (s := s) (g := g) (s0 := s0) (ls := ls) hh ss (i + 1) (add1 B h w i cs C) (some (false, .int i)) (some (false, .lst (cs.map .int))) (some (false, .int (ledZ h cs))) (fun c hc => hs c (List.mem_cons_of_mem _ hc)) (by
      have : (add1 B h w i cs C).length ≤ C.length + 1 := by unfold add1; split <;> simp
      simp at hl; omega)
    refine ⟨u8, u9, u10, ?_⟩
    rw [List.map_cons, enumD, forL_cons]
    rw [← show exR B h w (cs :: ss) i C = exR B h w ss (i + 1) (add1 B h w i cs C) from rfl] at ih
    by_cases a1 : ((ledZ h cs).natAbs : Int) ≤ B
    · by_cases a2 : ledZ h cs ∈ keys C
      · rw [show add1 B h w i cs C = C by unfold add1; rw [if_neg (fun z => z.2 a2)]] at ih
        simp [e1, a1, a2, dk_in, ih]
      · rw [show add1 B h w i cs C = C ++ [(ledZ h cs, some (h, i), w ++ [i])] by unfold add1; rw [if_pos ⟨a1, a2⟩]] at ih
        simp only [envWays, linD, dk_app, keys_app, parE, parD, List.map_append, List.map_cons, List.map_nil] at ih
        simp [e1, a1, a2, dk_in, dk_len, keys_len, hl2, h2, dk_put parE a2, ih]
    · rw [show add1 B h w i cs C = C by unfold add1; rw [if_neg (fun z => a1 z.1)]] at ih
      simp [e1, a1, ih]
end BL
end

section
set_option Elab.async false
set_option linter.all false
set_option maxRecDepth 100000
set_option maxHeartbeats 4000000
namespace BL
open PySem PySem.Spec PyProof.Rows L2
theorem step_len (rw0 : List (List Int)) (B : Int) (C : List BEn) (p : Nat) : C.length ≤ (stepAt rw0 B C p).length := by
  obtain ⟨R, e⟩ := step_pre rw0 B C p
  rw [e]; simp
theorem ways_while {ss : List (List Int)} (R : Row ss) {B s g : Int} (hB : 0 ≤ B ∧ B ≤ 999) {ls : LS} : ∀ (n p : Nat) (C : List BEn) (t7 t8 t9 t10 : Option (Bool × D)), GoodB ss B s C → p ≤ C.length → 2 * B + 3 ≤ p + n →
    ∃ n' u7 u8 u9 u10, sWhile cdWays lpWays n (envWays ss B s g C (some (false, .int p)) t7 t8 t9 t10) ls = .ok (.nx (envWays ss B s g (bfs ss B n' p C) (some (false, .int ((p + n' : Nat) : Int))) u7 u8 u9 u10)) ls ∧ p + n' ≤ (bfs ss B n' p C).length ∧ ((bfs ss B n' p C).length ≤ p + n' ∨ g ∈ keys (bfs ss B n' p C))
  | 0, p, C, _, _, _, _, G, hp, hn => absurd (G.len hB.1) (by omega)
  | n + 1, p, C, t7, t8, t9, t10, G, hp, hn => by
    have gl := G.len hB.1
    rw [sWhile_succ]
    by_cases c1 : p < C.length
    · by_cases c2 : g ∈ keys C
      · refine ⟨0, t7, t8, t9, t10, ?_, hp, .inr c2⟩
        simp [dk_in, c1, c2, keys_len, bfs]
      · obtain ⟨e, he⟩ : ∃ e, C[p]? = some e := ⟨C[p], by simp [c1]⟩
        have hx := (G.path e (List.mem_of_getElem? he)).le
        have hl := ex_len B e.1 e.2.2 ss 0 C
        obtain ⟨v8, v9, v10, e1⟩ := ways_in (s0 := ss) (B := B) (s := s) (g := g) (h := e.1) (w := e.2.2) (p := some (false, .int ((p + 1 : Nat) : Int))) (ls := ls) (by omega) ss 0 C t8 t9 t10 R.all (by have := R.few; omega)
        have es : stepAt ss B C p = exR B e.1 e.2.2 ss 0 C := by unfold stepAt; rw [he]
        have sl := step_len ss B C p
        obtain ⟨n', u7, u8, u9, u10, e2, e3, e4⟩ := ways_while R hB (ls := ls) (g := g) n (p + 1) (stepAt ss B C p) (some (false, .int e.1)) v8 v9 v10 (G.step p) (by omega) (by omega)
        refine ⟨n' + 1, u7, u8, u9, u10, ?_, ?_, ?_⟩
        · rw [show p + (n' + 1) = p + 1 + n' by omega, show bfs ss B (n' + 1) p C = bfs ss B n' (p + 1) (stepAt ss B C p) from rfl]
          rw [es] at e2
          rw [es, ← e2]
          simp only [envWays, Int.natCast_add, Int.natCast_one] at e1
          simp [dk_in, c1, c2, keys_len, lin_at he, e1]
        · rw [show bfs ss B (n' + 1) p C = bfs ss B n' (p + 1) (stepAt ss B C p) from rfl]; omega
        · rw [show bfs ss B (n' + 1) p C = bfs ss B n' (p + 1) (stepAt ss B C p) from rfl, show p + (n' + 1) = p + 1 + n' by omega]; exact e4
    · refine ⟨0, t7, t8, t9, t10, ?_, hp, .inl (by simp [bfs]; omega)⟩
      simp [c1, keys_len, bfs]
theorem bfs_add (rw0 : List (List Int)) (B : Int) : ∀ (n m p : Nat) (C : List BEn), bfs rw0 B (n + m) p C = bfs rw0 B m (p + n) (bfs rw0 B n p C)
  | 0, m, p, C => by simp [bfs]
  | n + 1, m, p, C => by
    rw [show n + 1 + m = n + m + 1 by omega, bfs, bfs, bfs_add rw0 B n m (p + 1), show p + 1 + n = p + (n + 1) by omega]
theorem bfs_end (rw0 : List (List Int)) (B : Int) : ∀ (n p : Nat) (C : List BEn), C.length ≤ p → bfs rw0 B n p C = C
  | 0, _, _, _ => rfl
  | n + 1, p, C, h => by
    have : stepAt rw0 B C p = C := by unfold stepAt; rw [List.getElem?_eq_none h]
    rw [bfs, this, bfs_end rw0 B n (p + 1) C (by omega)]
theorem run_ways {ss : List (List Int)} (R : Row ss) {B : Int} (hB : 0 ≤ B ∧ B ≤ 999) (s g : Int) (ls : LS) : ∃ C T, full ss B s = C ++ T ∧ (g ∈ keys (full ss B s) → g ∈ keys C) ∧ GoodB ss B s C ∧
    mr_ways_from 5000 [rowsD ss, .int B, .int s, .int g] ls = .ok (.fr, .dk (dkOf parE C)) ls := by
  by_cases hs : (s.natAbs : Int) ≤ B
  · obtain ⟨n', u7, u8, u9, u10, e1, e2, e3⟩ := ways_while R hB (ls := ls) (s := s) (g := g) 5000 0 [(s, none, [])] none none none none (GoodB.init hs) (by simp) (by omega)
    have G : GoodB ss B s (bfs ss B n' 0 [(s, none, [])]) := GoodB.bfs _ _ (GoodB.init hs)
    have gl := G.len hB.1
    have ef : full ss B s = bfs ss B ((2 * B + 2).toNat - n') (0 + n') (bfs ss B n' 0 [(s, none, [])]) := by
      rw [← bfs_add, show n' + ((2 * B + 2).toNat - n') = (2 * B + 2).toNat by omega]
      unfold full
      rw [if_pos hs]
    obtain ⟨T, et⟩ := bfs_pre ss B ((2 * B + 2).toNat - n') (0 + n') (bfs ss B n' 0 [(s, none, [])])
    refine ⟨_, T, ef.trans et, fun hg => ?_, G, ?_⟩
    · rcases e3 with e3 | e3
      · rw [ef, bfs_end _ _ _ _ _ e3] at hg; exact hg
      · exact e3
    · have h0 : (0 : Nat) < sizeLine := by rw [sizeLine_eq]; omega
      have h1 : 1 ≤ sizeLine := by rw [sizeLine_eq]; omega
      have hs2 : ¬ (B < (s.natAbs : Int)) := by omega
      have ek : putD [] (.inl s) .non = dkOf parE [(s, none, [])] := rfl
      simp only [envWays, linD, cdWays, lpWays, bdWays, show keys [(s, none, [])] = [s] from rfl, Int.natCast_zero, Int.cast_ofNat_Int, List.map_cons, List.map_nil, Nat.zero_add] at e1
      simp [mr_ways_from, mirOf_ev, mb_ways_from, hs2, h0, h1, ek, e1]
  · refine ⟨[], [], by unfold full; rw [if_neg hs]; rfl, fun h => by unfold full at h; rw [if_neg hs] at h; exact h, ⟨by simp [keys], fun e h => (nomatch h), (fun i e h => by simp at h), fun e h => (nomatch h)⟩, ?_⟩
    have hs2 : B < (s.natAbs : Int) := by omega
    simp [mr_ways_from, mirOf_ev, mb_ways_from, hs2, dkOf]
abbrev bdWord : SM := (sSeq (sTup [3, 4] (eOp ixD (eName 0) (eName 3))) (sMeth 2 appD (aCons (eName 4) aNil) none))
abbrev cdWord : Env1 → M Bool := (tOf (eOp notD (eOp ixD (eName 0) (eName 3)) (eC .non)))
theorem word_while {ss : List (List Int)} {B s : Int} {C : List BEn} (G : GoodB ss B s C) (hl : C.length ≤ 4000) {g : Option (Bool × D)} {ls : LS} : ∀ (n i : Nat) (e : BEn) (acc : List Nat) (t4 : Option (Bool × D)), C[i]? = some e → i < n → acc.length + i ≤ C.length →
    ∃ t3 u4, sWhile cdWord bdWord n [some (false, .dk (dkOf parE C)), g, some (true, .lst (acc.map fun (k : Nat) => D.int k)), some (false, .int e.1), t4] ls = .ok (.nx [some (false, .dk (dkOf parE C)), g, some (true, .lst ((acc ++ e.2.2.reverse).map fun (k : Nat) => D.int k)), t3, u4]) ls
  | 0, _, _, _, _, _, h, _ => absurd h (by omega)
  | n + 1, i, e, acc, t4, he, hi, ha => by
    rw [sWhile_succ]
    have hg := dk_at parE G.nd (List.mem_of_getElem? he)
    rcases G.par i e he with ⟨p1, p2⟩ | ⟨j, e', k, p1, p2, p3, p4⟩
    · refine ⟨some (false, .int e.1), t4, ?_⟩
      simp [hg, parE, p1, p2, parD]
    · obtain ⟨t3, u4, ih⟩ := word_while G hl (g := g) (ls := ls) n j e' (acc ++ [k]) (some (false, .int k)) p2 (by omega) (by have := (List.getElem?_eq_some_iff.mp he).1; simp; omega)
      refine ⟨t3, u4, ?_⟩
      have hil := (List.getElem?_eq_some_iff.mp he).1
      have hz : acc.length < sizeLine := sz24 (by omega)
      have ew : acc ++ e.2.2.reverse = (acc ++ [k]) ++ e'.2.2.reverse := by rw [p4]; simp
      rw [ew, ← ih]
      simp [hg, parE, p3, parD, hz]
theorem run_word {ss : List (List Int)} {B s : Int} {C : List BEn} (G : GoodB ss B s C) (hl : C.length ≤ 4000) {e : BEn} (he : e ∈ C) (ls : LS) : mr_word_to 5000 [.dk (dkOf parE C), .int e.1] ls = .ok (.sh, wrdE e) ls := by
  obtain ⟨i, hi⟩ := List.getElem?_of_mem he
  have hil := (List.getElem?_eq_some_iff.mp hi).1
  obtain ⟨t3, u4, e1⟩ := word_while G hl (g := some (false, .int e.1)) (ls := ls) 5000 i e [] none hi (by omega) (by simp; omega)
  simp at e1
  simp [mr_word_to, mirOf_ev, mb_word_to, e1]
/-- the word kept for x -/
def ansW (C : List BEn) (x : Int) : Option (List Nat) := (C.find? fun e => decide (e.1 = x)).map (·.2.2)
def ansD : Option (List Nat) → D
  | none => .non
  | some w => wrdD w
theorem ansW_app {C T : List BEn} {x : Int} (h : x ∈ keys C) : ansW (C ++ T) x = ansW C x := by
  unfold ansW
  rw [List.find?_append]
  obtain ⟨e, he, rfl⟩ := List.mem_map.mp h
  cases hf : C.find? fun a => decide (a.1 = e.1) with
  | none => exact absurd (List.find?_eq_none.mp hf e he) (by simp)
  | some a => rfl
theorem ansW_no {C : List BEn} {x : Int} (h : x ∉ keys C) : ansW C x = none := by
  unfold ansW
  rw [List.find?_eq_none.mpr]
  · rfl
  · intro e he
    simp
    intro z
    exact h (List.mem_map.mpr ⟨e, he, z⟩)
theorem ansW_at {C : List BEn} {e : BEn} (nd : (keys C).Nodup) (he : e ∈ C) : ansW C e.1 = some e.2.2 := by
  have h := dk_at wrdE nd he
  unfold ansW
  induction C with
  | nil => cases he
  | cons a C ih =>
    have nd2 : a.1 ∉ keys C ∧ (keys C).Nodup := List.nodup_cons.mp nd
    rw [List.find?_cons]
    rcases List.mem_cons.mp he with rfl | he
    · simp
    · have : ¬ a.1 = e.1 := fun z => nd2.1 (by rw [z]; exact List.mem_map.mpr ⟨e, he, rfl⟩)
      rw [decide_eq_false this]
      exact ih nd2.2 he (dk_at wrdE nd2.2 he)
theorem run_reach {ss : List (List Int)} (R : Row ss) (a b : Int) (ha : wide60 a) (hb : max (bndS ss) b.natAbs ≤ 999) (h1 : 0 ≤ bndS ss) (ls : LS) :
    mr_reach 5000 [stepsD ss, numD a, numD b] ls = .ok (.sh, ansD (ansW (full ss (max (bndS ss) b.natAbs) a) b)) ls := by
  have hB : 0 ≤ max (bndS ss) (b.natAbs : Int) ∧ max (bndS ss) (b.natAbs : Int) ≤ 999 := ⟨by omega, hb⟩
  have hb2 : wide60 b := by unfold wide60; omega
  obtain ⟨C, T, e1, e2, G, e3⟩ := run_ways R hB a b ls
  have gl := G.len hB.1
  have f1 := run_asked_of R a b ha hb2 ls
  have f2 := run_check_few (max (bndS ss) (b.natAbs : Int)) hB ls
  by_cases hk : b ∈ keys C
  · rw [e1, ansW_app hk]
    obtain ⟨e, he, rfl⟩ := List.mem_map.mp hk
    rw [ansW_at G.nd he]
    have f3 := run_word G (by omega) he ls
    simp [mr_reach, mirOf_ev, mb_reach, f1, f2, e3, dk_in, hk, f3, ansD]
  · rw [ansW_no (fun z => hk (e2 z))]
    simp [mr_reach, mirOf_ev, mb_reach, f1, f2, e3, dk_in, hk, ansD]
end BL
end

section
set_option Elab.async false
set_option linter.all false
set_option maxRecDepth 100000
set_option maxHeartbeats 4000000
namespace BL
open PySem PySem.Spec PyProof.Rows L2
/-! ### the law's own search -/
theorem GoodB.wlen {rw0 : List (List Int)} {B s : Int} {C : List BEn} (g : GoodB rw0 B s C) : ∀ (n i : Nat) (e : BEn), i < n → C[i]? = some e → e.2.2.length ≤ i
  | 0, _, _, h, _ => absurd h (by omega)
  | n + 1, i, e, h, he => by
    rcases g.par i e he with ⟨p1, p2⟩ | ⟨j, e', k, p1, p2, p3, p4⟩
    · rw [p2]; simp
    · have := g.wlen n j e' (by omega) p2
      rw [p4]
      simp
      omega
abbrev bdWords : SM := (sSeq (sSet 9 (eCall 2 (mr__law_led_to 5000) (qCons (eName 8) (qCons (eName 6) qNil)))) (sIf (bAnd (tOf (eOp leD (eCB absD (rCons (eName 9) aNil)) (eName 2))) (tOf (eOp notinO (eName 9) (eName 3)))) (sSeq (sStore 3 (eName 9) (eOp addD (eOp ixD (eName 3) (eName 6)) (eTup (aCons (eName 7) aNil)))) (sMeth 4 appD (aCons (eName 9) aNil) none)) sNext))
abbrev lpWords : SM := (sIf (tOf (eOp ltD (eName 5) (eCB lenD (rCons (eName 4) aNil)))) (sSeq (sSet 6 (eOp ixD (eName 4) (eName 5))) (sFor (iArg enumO (aCons (eName 0) aNil)) (tgT [7, 8]) bdWords)) sNext)
abbrev envWords (ss : List (List Int)) (B s : Int) (C : List BEn) (p h : Option (Bool × D)) (t7 t8 t9 : Option (Bool × D)) : Env1 := [some (false, stepsD ss), some (false, .int s), some (false, .int B), some (true, .dk (dkOf wrdE C)), some (true, linD C), p, h, t7, t8, t9]
theorem words_in {s0 : List (List Int)} {B s : Int} {j : Nat} {e : BEn} {p : Option (Bool × D)} {ls : LS} (hB : 0 ≤ B ∧ B ≤ 999) : ∀ (ss : List (List Int)) (i : Nat) (C : List BEn) (t7 t8 t9 : Option (Bool × D)), GoodB s0 B s C → C[j]? = some e → (∀ (k : Nat) (cs : List Int), ss[k]? = some cs → s0[i + k]? = some cs) → (∀ cs ∈ ss, cs ∈ tolds) →
    ∃ u7 u8 u9, forL (tgT [7, 8]) bdWords (enumD i (ss.map stepD)) (envWords s0 B s C p (some (false, .int e.1)) t7 t8 t9) ls = .ok (.nx (envWords s0 B s (exR B e.1 e.2.2 ss i C) p (some (false, .int e.1)) u7 u8 u9)) ls
  | [], i, C, t7, t8, t9, _, _, _, _ => ⟨t7, t8, t9, rfl⟩
  | cs :: ss, i, C, t7, t8, t9, G, he, hr, hs => by
    have gl := G.len hB.1
    have hx := (G.path e (List.mem_of_getElem? he)).le
    have hw := G.wlen (j + 1) j e (by omega) he
    have hjl := (List.getElem?_eq_some_iff.mp he).1
    have e1 := run_led_to (h := e.1) (by omega) (hs cs List.mem_cons_self) ls
    have hl2 : C.length < sizeLine := sz24 (by omega)
    have h1 : 1 ≤ sizeLine := by rw [sizeLine_eq]; omega
    have h3 : e.2.2.length + 1 ≤ sizeLine := by rw [sizeLine_eq]; omega
    have hg := dk_at wrdE G.nd (List.mem_of_getElem? he)
    have G2 := G.add he (hr 0 cs rfl)
    have he2 : (add1 B e.1 e.2.2 i cs C)[j]? = some e := by
      obtain ⟨R, eR⟩ := add1_pre B e.1 e.2.2 i cs C
      rw [eR, List.getElem?_append_left hjl]; exact he
    obtain ⟨u7, u8, u9, ih⟩ := words_in (p := p) (s := s) (s0 := s0) (ls := ls) hB ss (i + 1) (add1 B e.1 e.2.2 i cs C) (some (false, .int i)) (some (false, stepD cs)) (some (false, .int (ledZ e.1 cs))) G2 he2 (fun k c h => by
      have := hr (k + 1) c (by simpa using h)
      rwa [show i + (k + 1) = i + 1 + k by omega] at this) (fun c hc => hs c (List.mem_cons_of_mem _ hc))
    refine ⟨u7, u8, u9, ?_⟩
    rw [List.map_cons, enumD, forL_cons]
    rw [← show exR B e.1 e.2.2 (cs :: ss) i C = exR B e.1 e.2.2 ss (i + 1) (add1 B e.1 e.2.2 i cs C) from rfl] at ih
    by_cases a1 : ((ledZ e.1 cs).natAbs : Int) ≤ B
    · by_cases a2 : ledZ e.1 cs ∈ keys C
      · rw [show add1 B e.1 e.2.2 i cs C = C by unfold add1; rw [if_neg (fun z => z.2 a2)]] at ih
        simp [e1, a1, a2, dk_in, ih]
      · rw [show add1 B e.1 e.2.2 i cs C = C ++ [(ledZ e.1 cs, some (e.1, i), e.2.2 ++ [i])] by unfold add1; rw [if_pos ⟨a1, a2⟩]] at ih
        simp only [envWords, linD, dk_app, keys_app, wrdE, wrdD, List.map_append, List.map_cons, List.map_nil] at ih
        simp [e1, a1, a2, dk_in, dk_len, keys_len, hl2, h1, h3, hg, dk_put wrdE a2, ih]
    · rw [show add1 B e.1 e.2.2 i cs C = C by unfold add1; rw [if_neg (fun z => a1 z.1)]] at ih
      simp [e1, a1, ih]
theorem words_out {ss : List (List Int)} (R : Row ss) {B s : Int} (hB : 0 ≤ B ∧ B ≤ 999) {ls : LS} : ∀ (n p : Nat) (C : List BEn) (t5 t6 t7 t8 t9 : Option (Bool × D)), GoodB ss B s C →
    ∃ u5 u6 u7 u8 u9, forL (tgN 5) lpWords ((List.range' p n).map fun (k : Nat) => D.int k) (envWords ss B s C t5 t6 t7 t8 t9) ls = .ok (.nx (envWords ss B s (bfs ss B n p C) u5 u6 u7 u8 u9)) ls
  | 0, p, C, t5, t6, t7, t8, t9, _ => ⟨t5, t6, t7, t8, t9, rfl⟩
  | n + 1, p, C, t5, t6, t7, t8, t9, G => by
    rw [List.range'_succ, List.map_cons, forL_cons]
    by_cases c1 : p < C.length
    · obtain ⟨e, he⟩ : ∃ e, C[p]? = some e := ⟨C[p], by simp [c1]⟩
      obtain ⟨v7, v8, v9, e1⟩ := words_in (s0 := ss) (B := B) (s := s) (p := some (false, .int (p : Int))) (ls := ls) hB ss 0 C t7 t8 t9 G he (fun k cs h => by simpa using h) R.all
      have es : stepAt ss B C p = exR B e.1 e.2.2 ss 0 C := by unfold stepAt; rw [he]
      obtain ⟨u5, u6, u7, u8, u9, e2⟩ := words_out R hB (ls := ls) n (p + 1) (stepAt ss B C p) (some (false, .int (p : Int))) (some (false, .int e.1)) v7 v8 v9 (G.step p)
      refine ⟨u5, u6, u7, u8, u9, ?_⟩
      rw [bfs, ← e2, es]
      simp [c1, keys_len, lin_at he, e1]
    · obtain ⟨u5, u6, u7, u8, u9, e2⟩ := words_out R hB (ls := ls) n (p + 1) C (some (false, .int (p : Int))) t6 t7 t8 t9 G
      have : stepAt ss B C p = C := by unfold stepAt; rw [List.getElem?_eq_none (by omega)]
      refine ⟨u5, u6, u7, u8, u9, ?_⟩
      rw [bfs, this, ← e2]
      simp [c1, keys_len]
theorem run_words {ss : List (List Int)} (R : Row ss) {B : Int} (hB : 0 ≤ B ∧ B ≤ 999) (s : Int) (ls : LS) : mr__law_words 5000 [stepsD ss, .int s, .int B] ls = .ok (.fr, .dk (dkOf wrdE (full ss B s))) ls := by
  have hm : (2 : Int).natAbs.log2 + B.natAbs.log2 < 1000000 := mul_ok (by decide) (by omega)
  have hm2 : Nat.log2 2 + B.natAbs.log2 < 1000000 := hm
  have hr : -4611686018427387904 ≤ 2 * B + 2 ∧ 2 * B + 2 < 4611686018427387904 := by omega
  have h0 : (0 : Nat) < sizeLine := by rw [sizeLine_eq]; omega
  by_cases hs : (s.natAbs : Int) ≤ B
  · obtain ⟨u5, u6, u7, u8, u9, e1⟩ := words_out R hB (ls := ls) (2 * B + 2).toNat 0 [(s, none, [])] none none none none none (GoodB.init hs)
    have ek : putD [] (.inl s) (.tup []) = dkOf wrdE [(s, none, [])] := rfl
    rw [show bfs ss B (2 * B + 2).toNat 0 [(s, none, [])] = full ss B s by unfold full; rw [if_pos hs]] at e1
    rw [← List.range_eq_range'] at e1
    simp only [envWords, linD, lpWords, bdWords, show keys [(s, none, [])] = [s] from rfl, List.map_cons, List.map_nil] at e1
    simp [mr__law_words, mirOf_ev, mb__law_words, hs, h0, ek, hm2, rngO, hr, e1]
  · have ef : full ss B s = [] := by unfold full; rw [if_neg hs]
    obtain ⟨u5, u6, u7, u8, u9, e1⟩ := words_out R hB (s := s) (ls := ls) (2 * B + 2).toNat 0 [] none none none none none ⟨by simp [keys], fun e h => (nomatch h), (fun i e h => by simp at h), fun e h => (nomatch h)⟩
    rw [bfs_end _ _ _ _ _ (by simp)] at e1
    rw [← List.range_eq_range'] at e1
    simp only [envWords, linD, lpWords, bdWords, show keys [] = [] from rfl, show dkOf wrdE [] = [] from rfl, List.map_cons, List.map_nil] at e1
    simp [mr__law_words, mirOf_ev, mb__law_words, hs, hm2, rngO, hr, e1, ef, dkOf]
end BL
end

section
set_option Elab.async false
set_option linter.all false
set_option maxRecDepth 100000
set_option maxHeartbeats 4000000
namespace BL
open PySem PySem.Spec PyProof.Rows L2
/-! ### the text of a word -/
theorem ok_app {a b : Str} (ha : PyData.strOk a = true) (hb : PyData.strOk b = true) : PyData.strOk (a ++ b) = true := by
  have h : PyData.strOk (a ++ b) = (a.cps ++ b.cps).all fun c => decide (c < 0x110000) := rfl
  rw [h, Array.all_append]
  exact Bool.and_eq_true_iff.mpr ⟨ha, hb⟩
theorem ok_lit (s : String) : PyData.strOk (Str.ofString s) = true := by
  rw [Str.ofString_eq_toList]
  show (((s.toList.map Char.toNat).toArray).all fun c => decide (c < 0x110000)) = true
  rw [List.all_toArray]
  apply List.all_eq_true.mpr
  intro n hn
  obtain ⟨c, _, rfl⟩ := List.mem_map.mp hn
  have h : c.toNat < 0x110000 := by
    have h := c.valid
    rcases h with h | h
    · exact Nat.lt_trans h (by decide)
    · exact h.2
  exact decide_eq_true h
theorem ok_join (sep : Str) (hs : PyData.strOk sep = true) : ∀ ts : List Str, (∀ t ∈ ts, PyData.strOk t = true) → PyData.strOk (Str.join sep ts) = true
  | [], _ => by unfold Str.join; decide +kernel
  | [x], h => h x List.mem_cons_self
  | x :: y :: r, h => by
    show PyData.strOk (x ++ sep ++ Str.join sep (y :: r)) = true
    exact ok_app (ok_app (h x List.mem_cons_self) hs) (ok_join sep hs (y :: r) fun t ht => h t (List.mem_cons_of_mem _ ht))
theorem ok_ints : ∀ ns : List Int, ∀ t ∈ PyData.shownAll (ns.map .int), PyData.strOk t = true
  | [], t, h => by simp [PyData.shownAll] at h
  | n :: ns, t, h => by
    simp only [List.map_cons, PyData.shownAll, List.mem_cons] at h
    rcases h with rfl | h
    · show PyData.strOk (PyData.shown (.int n)) = true
      simp only [PyData.shown]
      exact ok_lit _
    · exact ok_ints ns t h
theorem ok_tuple (ns : List Int) : PyData.strOk (PyData.shown (.tuple (ns.map .int))) = true := by
  simp only [PyData.shown]
  unfold tupleText
  refine ok_app (ok_app (ok_lit _) (ok_join _ (ok_lit _) _ (ok_ints ns))) ?_
  split <;> exact ok_lit _
theorem ints_can : ∀ ns : List Int, PyData.canLayAll0 (ns.map .int) = true
  | [] => rfl
  | n :: ns => by simp [PyData.canLayAll0, PyData.canLay0, ints_can ns]
theorem ints_depth : ∀ ns : List Int, PyData.depthAll (ns.map .int) = 0
  | [] => rfl
  | n :: ns => by simp [PyData.depthAll, PyData.depth, ints_depth ns]
theorem ints_nodict : ∀ ns : List Int, PyData.hasDictAll (ns.map .int) = false
  | [] => rfl
  | n :: ns => by simp [PyData.hasDictAll, PyData.hasDict, ints_nodict ns]
theorem ints_show : ∀ ns : List Int, (∀ n ∈ ns, n.natAbs < 2 ^ 30) → PyData.showableAll (ns.map .int) = true
  | [], _ => rfl
  | n :: ns, h => by
    have h1 := lg_lt (h n List.mem_cons_self)
    have h2 : n.natAbs.log2 < 1920 := by omega
    simp [PyData.showableAll, PyData.showable, h2, ints_show ns fun m hm => h m (List.mem_cons_of_mem _ hm)]
theorem ints_weight : ∀ ns : List Int, (∀ n ∈ ns, n.natAbs < 2 ^ 30) → PyData.weightAll (ns.map .int) ≤ 32 * ns.length
  | [], _ => by simp [PyData.weightAll]
  | n :: ns, h => by
    have h1 := lg_lt (h n List.mem_cons_self)
    have ih := ints_weight ns fun m hm => h m (List.mem_cons_of_mem _ hm)
    simp only [List.map_cons, PyData.weightAll, PyData.weight, List.length_cons]
    split <;> omega
theorem toPys_ints : ∀ ns : List Int, toPys (ns.map .int) = some (ns.map .int)
  | [] => rfl
  | n :: ns => by simp [toPys, toPy, toPys_ints ns]
theorem repr_word (w : List Nat) (hw : w.length ≤ 4000) (hk : ∀ k ∈ w, k < 8) : ∃ t, reprD [wrdD w] = some (.sh, .str t) ∧ PyData.strOk t = true := by
  have e : (w.map fun (k : Nat) => D.int k) = (w.map fun (k : Nat) => (k : Int)).map D.int := by simp
  have hs : ∀ n ∈ (w.map fun (k : Nat) => (k : Int)), n.natAbs < 2 ^ 30 := fun n hn => by
    obtain ⟨k, h1, rfl⟩ := List.mem_map.mp hn
    have := hk k h1
    simp; omega
  generalize hns : (w.map fun (k : Nat) => (k : Int)) = ns at e hs
  have hl : ns.length ≤ 4000 := by rw [← hns]; simpa using hw
  have ew := ints_weight ns hs
  have l0 : PyData.layable0 (.tuple (ns.map .int)) = true := by
    show (PyData.canLay0 (.tuple (ns.map .int)) && decide (PyData.depth (.tuple (ns.map .int)) ≤ 64) && decide (PyData.weight (.tuple (ns.map .int)) ≤ 2 ^ 20)) = true
    simp only [PyData.canLay0, PyData.depth, PyData.weight, ints_can, ints_depth, Bool.and_eq_true, decide_eq_true_eq]
    refine ⟨⟨trivial, by omega⟩, ?_⟩
    have h9 : PyData.weightAll (ns.map .int) ≤ 2 ^ 20 := by omega
    exact decide_eq_true h9
  have l1 : PyData.intsShort 13 (.tuple (ns.map .int)) = true := by
    simp only [PyData.intsShort]
    exact PyData.intsShortAll_ints ns fun n hn => Nat.lt_of_lt_of_le (hs n hn) (by decide)
  have l2 := shown_le13 l0 l1
  refine ⟨_, ?_, ok_tuple ns⟩
  show (toPy (.tup (w.map fun (k : Nat) => D.int k))).bind _ = _
  rw [e]
  simp only [toPy, toPys_ints, Option.map_some, Option.bind_some]
  rw [if_pos]
  refine ⟨by simp only [PyData.showable]; exact ints_show ns hs, ?_, by simp only [PyData.hasDict]; exact ints_nodict ns, by simp only [PyData.depth, ints_depth]; omega⟩
  rw [sizeLine_eq]
  omega
theorem eqD_str {x y : Str} (hx : PyData.strOk x = true) (hy : PyData.strOk y = true) : eqD (.str x) (.str y) = some (.sh, .bl (decide (x = y))) := by
  unfold eqD eqB
  simp [toPy, SeqAt.shaped, PyData.canLay0, PyData.depth, PyData.eqv, hx, hy]
  first | done | rfl | (rw [Bool.beq_eq_decide_eq])
theorem run_like {o : Option (List Nat)} (ho : ∀ w, o = some w → w.length ≤ 4000 ∧ ∀ k ∈ w, k < 8) (ls : LS) : mr__law_like 5000 [ansD o, ansD o] ls = .ok (.sh, .bl true) ls := by
  cases o with
  | none => kernel_rfl
  | some w =>
    obtain ⟨t, e1, e2⟩ := repr_word w (ho w rfl).1 (ho w rfl).2
    simp [mr__law_like, mirOf_ev, mb__law_like, ansD, e1, eqD_str e2 e2]
end BL
end

section
set_option Elab.async false
set_option linter.all false
set_option maxRecDepth 100000
set_option maxHeartbeats 4000000
namespace BL
open PySem PySem.Spec PyProof.Rows L2
/-! ### the law's draws -/
def mostR (m : Int) (cs : List Int) : Int := if lb cs > m then lb cs else m
theorem most_loop {a : Option (Bool × D)} {ls : LS} : ∀ (ss : List (List Int)) (m : Int) (s2 s3 s4 s5 : Option (Bool × D)), (∀ cs ∈ ss, cs ∈ tolds) →
    ∃ t2 t3 t4 t5, forL (tgN 2) bodyMost (ss.map stepD) [a, some (false, .int m), s2, s3, s4, s5] ls = .ok (.nx [a, some (false, .int (ss.foldl mostR m)), t2, t3, t4, t5]) ls
  | [], m, s2, s3, s4, s5, _ => ⟨s2, s3, s4, s5, rfl⟩
  | cs :: ss, m, s2, s3, s4, s5, h => by
    have e1 := k_most a s3 s4 s5 m ls cs (h cs List.mem_cons_self)
    obtain ⟨t2, t3, t4, t5, ih⟩ := most_loop (a := a) (ls := ls) ss (mostR m cs) (some (false, stepD cs)) (some (false, .int (lb cs))) (some (false, .tup [.int (sizeHi cs), .int 1])) (some (false, .tup [.int (sizeLo cs), .int 1])) fun c hc => h c (List.mem_cons_of_mem _ hc)
    refine ⟨t2, t3, t4, t5, ?_⟩
    rw [List.map_cons, forL_cons]
    simp only [tgN_ev, List.set_cons_succ, List.set_cons_zero, e1, envMost, loopR_nx]
    exact ih
theorem most_max : ∀ (ss : List (List Int)) (m : Int), (∀ cs ∈ ss, cs ∈ tolds) → (∀ cs ∈ ss, lb cs ≤ ss.foldl mostR m) ∧ m ≤ ss.foldl mostR m ∧ (ss.foldl mostR m = m ∨ ∃ cs ∈ ss, ss.foldl mostR m = lb cs)
  | [], m, _ => ⟨fun _ h => (nomatch h), Int.le_refl _, .inl rfl⟩
  | cs :: ss, m, h => by
    obtain ⟨h1, h2, h3⟩ := most_max ss (mostR m cs) fun c hc => h c (List.mem_cons_of_mem _ hc)
    have hm : m ≤ mostR m cs ∧ lb cs ≤ mostR m cs ∧ (mostR m cs = m ∨ mostR m cs = lb cs) := by unfold mostR; split <;> omega
    rw [List.foldl_cons]
    refine ⟨fun c hc => ?_, by omega, ?_⟩
    · rcases List.mem_cons.mp hc with rfl | hc
      · omega
      · exact h1 c hc
    · rcases h3 with h3 | ⟨c, q1, q2⟩
      · rw [h3]
        rcases hm.2.2 with q | q
        · exact .inl q
        · exact .inr ⟨cs, List.mem_cons_self, q⟩
      · exact .inr ⟨c, List.mem_cons_of_mem _ q1, q2⟩
theorem Row.ne {ss : List (List Int)} (R : Row ss) : ss ≠ [] := by
  have := R.pos
  intro z
  subst z
  simp at this
theorem bndS_mem {ss : List (List Int)} (R : Row ss) : (∃ cs ∈ ss, bndS ss = lb cs) ∧ ∀ cs ∈ ss, lb cs ≤ bndS ss := by
  obtain ⟨h1, h2⟩ := maxI_spec (ns := ss.map lb) (by simpa using R.ne)
  refine ⟨?_, fun cs h => h2 _ (List.mem_map.mpr ⟨cs, h, rfl⟩)⟩
  obtain ⟨cs, h3, h4⟩ := List.mem_map.mp h1
  exact ⟨cs, h3, h4.symm⟩
theorem bndS_rng {ss : List (List Int)} (R : Row ss) : 1 ≤ bndS ss ∧ bndS ss ≤ 20 := by
  obtain ⟨⟨cs, h1, h2⟩, _⟩ := bndS_mem R
  rw [h2]
  exact k_lb1 cs (R.all cs h1)
theorem run_most {ss : List (List Int)} (R : Row ss) (ls : LS) : mr__law_most 5000 [stepsD ss] ls = .ok (.sh, .int (bndS ss)) ls := by
  obtain ⟨t2, t3, t4, t5, e⟩ := most_loop (a := some (false, stepsD ss)) (ls := ls) ss 1 none none none none R.all
  have eb : ss.foldl mostR 1 = bndS ss := by
    obtain ⟨h1, h2, h3⟩ := most_max ss 1 R.all
    obtain ⟨⟨c, q1, q2⟩, q3⟩ := bndS_mem R
    have a1 := h1 c q1
    have a2 := bndS_rng R
    rcases h3 with h3 | ⟨d, p1, p2⟩
    · omega
    · have := q3 d p1
      omega
  rw [eb] at e
  simp only [bodyMost] at e
  simp [mr__law_most, mirOf_ev, mb__law_most, e]
theorem run_of {b : Nat} {s : LS} (h : LOk (b + 1) s) (xs : List D) (hx : xs ≠ []) (hl : xs.length ≤ 16777216) : ∃ d s', d ∈ xs ∧ mr__law_of 5000 [.st, .lst xs] s = .ok (.sh, d) s' ∧ LOk b s' := by
  have hp := List.length_pos_iff.mpr hx
  obtain ⟨v, s', e1, e2, e3, e4⟩ := run_draw h (n := (xs.length : Int)) (by omega) (by omega)
  have hv : v.toNat < xs.length := by omega
  refine ⟨xs[v.toNat], s', List.getElem_mem hv, ?_, e4⟩
  have ea : atI xs v = some xs[v.toNat] := by
    have := atI_nat (xs := xs) (p := v.toNat) (d := xs[v.toNat]) (by simp [hv])
    rwa [show ((v.toNat : Nat) : Int) = v by omega] at this
  simp [mr__law_of, mirOf_ev, mb__law_of, e1, ea]
theorem mem_rng {lo c : Int} {n : Nat} (h1 : lo ≤ c) (h2 : c < lo + n) : c ∈ rngI lo n := List.mem_map.mpr ⟨(c - lo).toNat, List.mem_range.mpr (by omega), by omega⟩
theorem mem_t1 {c l : Int} (h1 : -3 ≤ c ∧ c ≤ 3) (hl : l ∈ [(2 : Int), -2, 3, -3]) : [c, l] ∈ tolds :=
  List.mem_append_left _ (List.mem_flatMap.mpr ⟨c, mem_rng h1.1 (by omega), List.mem_map.mpr ⟨l, hl, rfl⟩⟩)
theorem mem_t2 {c d l : Int} (h1 : -3 ≤ c ∧ c ≤ 3) (h2 : -2 ≤ d ∧ d ≤ 2) (hl : l ∈ [(1 : Int), -1, 2]) : [c, d, l] ∈ tolds ∧ [c, d, 0, l] ∈ tolds := by
  have go : ∀ t, t ∈ [[c, d, l], [c, d, 0, l]] → t ∈ tolds := fun t ht =>
    List.mem_append_right _ (List.mem_flatMap.mpr ⟨c, mem_rng h1.1 (by omega), List.mem_flatMap.mpr ⟨d, mem_rng h2.1 (by omega), List.mem_flatMap.mpr ⟨l, hl, ht⟩⟩⟩)
  exact ⟨go _ (by simp), go _ (by simp)⟩
abbrev bdCh : SM := (sSeq (sSet 3 (eCall 2 (mr__law_draw 5000) (qCons (eName 0) (qCons (eC (.int 5)) qNil)))) (sSeq (sSet 4 (eCall 2 (mr__law_of 5000) (qCons (eName 0) (qCons (eIf (tOf (eOp gtD (eName 3) (eC (.int 1)))) (eLst (aCons (eC (.int 1)) (aCons (eUn negD (eC (.int 1))) (aCons (eC (.int 2)) aNil)))) (eLst (aCons (eC (.int 2)) (aCons (eUn negD (eC (.int 2))) (aCons (eC (.int 3)) (aCons (eUn negD (eC (.int 3))) aNil)))))) qNil)))) (sSeq (sSet 5 (eLst (aCons (eTup (aCons (eOp subD (eCall 2 (mr__law_draw 5000) (qCons (eName 0) (qCons (eC (.int 7)) qNil))) (eC (.int 3))) (aCons (eC (.int 1)) aNil))) aNil))) (sSeq (sIf (tOf (eOp gtD (eName 3) (eC (.int 1)))) (sMeth 5 appD (aCons (eTup (aCons (eOp subD (eCall 2 (mr__law_draw 5000) (qCons (eName 0) (qCons (eC (.int 5)) qNil))) (eC (.int 2))) (aCons (eC (.int 1)) aNil))) aNil) none) sNext) (sSeq (sIf (tOf (eOp eqD (eName 3) (eC (.int 4)))) (sMeth 5 appD (aCons (eTup (aCons (eC (.int 0)) (aCons (eC (.int 1)) aNil))) aNil) none) sNext) (sSet 1 (eOp addD (eName 1) (eTup (aCons (eCB tupleD (rCons (eOp addD (eName 5) (eLst (aCons (eTup (aCons (eName 4) (aCons (eC (.int 1)) aNil))) aNil))) aNil)) aNil)))))))))
theorem ch_body {b : Nat} {s : LS} (h : LOk (b + 4) s) (ss : List (List Int)) (hl : ss.length ≤ 100) (t2 t3 t4 t5 : Option (Bool × D)) : ∃ cs u3 u4 u5 s', cs ∈ tolds ∧ bdCh [some (false, .st), some (false, stepsD ss), t2, t3, t4, t5] s = .ok (.nx [some (false, .st), some (false, stepsD (ss ++ [cs])), t2, u3, u4, u5]) s' ∧ LOk b s' := by
  have z1 : ∀ n : Nat, n ≤ 200 → n ≤ sizeLine := fun n hn => by rw [sizeLine_eq]; omega
  have z2 : ∀ n : Nat, n ≤ 200 → n < sizeLine := fun n hn => by rw [sizeLine_eq]; omega
  obtain ⟨v, s1, e1, v1, v2, L1⟩ := run_draw (b := b + 3) h (n := 5) (by decide) (by decide)
  by_cases c1 : 1 < v
  · obtain ⟨l, s2, m2, e2, L2⟩ := run_of (b := b + 2) L1 [.int 1, .int (-1), .int 2] (by simp) (by simp)
    obtain ⟨l, ml, rfl⟩ : ∃ k, k ∈ [(1 : Int), -1, 2] ∧ l = D.int k := by
      simp at m2
      rcases m2 with rfl | rfl | rfl
      · exact ⟨1, by simp, rfl⟩
      · exact ⟨-1, by simp, rfl⟩
      · exact ⟨2, by simp, rfl⟩
    obtain ⟨c, s3, e3, a1, a2, L3⟩ := run_draw (b := b + 1) L2 (n := 7) (by decide) (by decide)
    obtain ⟨d, s4, e4, b1, b2, L4⟩ := run_draw (b := b) L3 (n := 5) (by decide) (by decide)
    have mt := mem_t2 (c := c - 3) (d := d - 2) (l := l) (by omega) (by omega) ml
    by_cases c2 : v = 4
    · subst c2
      refine ⟨[c - 3, d - 2, 0, l], some (false, .int 4), some (false, .int l), some (true, .lst [numD (c - 3), numD (d - 2), numD 0]), s4, mt.2, ?_, L4⟩
      simp [bdCh, e1, e2, e3, e4, z1, z2, z1 (ss.length + 1) (by omega)]
    · refine ⟨[c - 3, d - 2, l], some (false, .int v), some (false, .int l), some (true, .lst [numD (c - 3), numD (d - 2)]), s4, mt.1, ?_, L4⟩
      simp [bdCh, e1, e2, e3, e4, c1, c2, z1, z2, z1 (ss.length + 1) (by omega)]
  · obtain ⟨l, s2, m2, e2, L2⟩ := run_of (b := b + 2) L1 [.int 2, .int (-2), .int 3, .int (-3)] (by simp) (by simp)
    obtain ⟨l, ml, rfl⟩ : ∃ k, k ∈ [(2 : Int), -2, 3, -3] ∧ l = D.int k := by
      simp at m2
      rcases m2 with rfl | rfl | rfl | rfl
      · exact ⟨2, by simp, rfl⟩
      · exact ⟨-2, by simp, rfl⟩
      · exact ⟨3, by simp, rfl⟩
      · exact ⟨-3, by simp, rfl⟩
    obtain ⟨c, s3, e3, a1, a2, L3⟩ := run_draw (b := b + 1) L2 (n := 7) (by decide) (by decide)
    have c2 : ¬ v = 4 := by omega
    refine ⟨[c - 3, l], some (false, .int v), some (false, .int l), some (true, .lst [numD (c - 3)]), s3, mem_t1 (by omega) ml, ?_, L3.mono (by omega)⟩
    simp [bdCh, e1, e2, e3, c1, c2, z1, z2, z1 (ss.length + 1) (by omega)]
end BL
end

section
set_option Elab.async false
set_option linter.all false
set_option maxRecDepth 100000
set_option maxHeartbeats 4000000
namespace BL
open PySem PySem.Spec PyProof.Rows L2
theorem ch_loop : ∀ (xs : List D) (b : Nat) (s : LS) (ss : List (List Int)) (t2 t3 t4 t5 : Option (Bool × D)), LOk (b + 4 * xs.length) s → (∀ cs ∈ ss, cs ∈ tolds) → ss.length + xs.length ≤ 50 →
    ∃ ss' u2 u3 u4 u5 s', ss'.length = ss.length + xs.length ∧ (∀ cs ∈ ss', cs ∈ tolds) ∧ forL (tgN 2) bdCh xs [some (false, .st), some (false, stepsD ss), t2, t3, t4, t5] s = .ok (.nx [some (false, .st), some (false, stepsD ss'), u2, u3, u4, u5]) s' ∧ LOk b s'
  | [], b, s, ss, t2, t3, t4, t5, h, ha, _ => ⟨ss, t2, t3, t4, t5, s, rfl, ha, rfl, h⟩
  | x :: xs, b, s, ss, t2, t3, t4, t5, h, ha, hl => by
    simp only [List.length_cons] at hl h
    obtain ⟨cs, v3, v4, v5, s1, m1, e1, L1⟩ := ch_body (b := b + 4 * xs.length) (s := s) (h.mono (by omega)) ss (by omega) (some (false, x)) t3 t4 t5
    obtain ⟨ss', u2, u3, u4, u5, s', q1, q2, q3, q4⟩ := ch_loop xs b s1 (ss ++ [cs]) (some (false, x)) v3 v4 v5 L1 (fun c hc => by
      rcases List.mem_append.mp hc with hc | hc
      · exact ha c hc
      · simp at hc; subst hc; exact m1) (by simp; omega)
    refine ⟨ss', u2, u3, u4, u5, s', by simp at q1 ⊢; omega, q2, ?_, q4⟩
    rw [forL_cons]
    simp only [tgN_ev, List.set_cons_succ, List.set_cons_zero, e1, loopR_nx]
    exact q3
theorem run_choices {b : Nat} {s : LS} (h : LOk (b + 13) s) : ∃ ss s', Row ss ∧ ss.length ≤ 3 ∧ mr__law_choices 5000 [.st] s = .ok (.sh, stepsD ss) s' ∧ LOk b s' := by
  obtain ⟨v, s1, e1, v1, v2, L1⟩ := run_draw (b := b + 12) h (n := 3) (by decide) (by decide)
  have hr : rngO [.int (1 + v)] = some ((List.range (1 + v).toNat).map fun (i : Nat) => D.int i) :=
    if_pos (c := -(2 ^ 62) ≤ 1 + v ∧ 1 + v < 2 ^ 62) (by omega)
  obtain ⟨ss, u2, u3, u4, u5, s2, q1, q2, q3, q4⟩ := ch_loop ((List.range (1 + v).toNat).map fun (i : Nat) => D.int i) b s1 [] none none none none (L1.mono (by simp; omega)) (fun _ h => (nomatch h)) (by simp; omega)
  simp at q1
  refine ⟨ss, s2, ⟨q2, by omega, by omega⟩, by omega, ?_, q4⟩
  rw [show stepsD [] = D.tup [] from rfl] at q3
  simp only [bdCh] at q3
  simp [mr__law_choices, mirOf_ev, mb__law_choices, e1, hr, q3]
theorem dk_keys (f : BEn → D) (C : List BEn) : (dkOf f C).map (fun kv => kD kv.1) = (keys C).map D.int := by simp [dkOf, keys, kD]
theorem dk_emp (f : BEn → D) (a : BEn) (C : List BEn) : (dkOf f (a :: C)).isEmpty = false := rfl
theorem run_goals {b : Nat} {s : LS} (h : LOk (b + 2) s) (C : List BEn) (hC : C.length ≤ 4000) (m : Int) (hm : 1 ≤ m ∧ m ≤ 20) : ∃ (gs : List Int) (fg : Fg) (s' : LS), fg ≠ .bo ∧ gs.length ≤ 4 ∧ (∀ g ∈ gs, g.natAbs ≤ 23 ∨ g ∈ keys C) ∧ mr__law_goals 5000 [.st, .dk (dkOf wrdE C), .int m] s = .ok (fg, .lst (gs.map .int)) s' ∧ LOk b s' := by
  have hm2 : Nat.log2 2 + m.natAbs.log2 < 1000000 := by
    have : (2 : Int).natAbs.log2 + m.natAbs.log2 < 1000000 := mul_ok (by decide) (by omega)
    exact this
  obtain ⟨v, s1, e1, v1, v2, L1⟩ := run_draw (b := b + 1) h (n := 2 * m + 1) (by omega) (by omega)
  have z1 : ∀ n : Nat, n ≤ 200 → n ≤ sizeLine := fun n hn => by rw [sizeLine_eq]; omega
  cases C with
  | nil =>
    refine ⟨[v - m, m + 1, -m - 3], .sh, s1, by decide, by simp, fun g hg => ?_, ?_, L1.mono (by omega)⟩
    · simp at hg
      rcases hg with rfl | rfl | rfl <;> exact .inl (by omega)
    · simp [mr__law_goals, mirOf_ev, mb__law_goals, e1, hm2, z1, show dkOf wrdE [] = [] from rfl]
  | cons a C => 
    obtain ⟨d, s2, m2, e2, L2⟩ := run_of (b := b) L1 ((keys (a :: C)).map .int) (by simp [keys]) (by simp [keys] at hC ⊢; omega)
    obtain ⟨k, mk, rfl⟩ := List.mem_map.mp m2
    refine ⟨[v - m, m + 1, -m - 3, k], .fr, s2, by decide, by simp, fun g hg => ?_, ?_, L2⟩
    · simp at hg
      rcases hg with rfl | rfl | rfl | rfl
      · exact .inl (by omega)
      · exact .inl (by omega)
      · exact .inl (by omega)
      · exact .inr mk
    · simp [mr__law_goals, mirOf_ev, mb__law_goals, e1, hm2, z1, dk_emp, dk_keys, e2]
end BL
end

section
set_option Elab.async false
set_option linter.all false
set_option maxRecDepth 100000
set_option maxHeartbeats 4000000
namespace BL
open PySem PySem.Spec PyProof.Rows L2
theorem get_ans (x : Int) : ∀ C : List BEn, (getK (dkOf wrdE C) (.inl x)).getD .non = ansD (ansW C x)
  | [] => rfl
  | e :: C => by
    have ih := get_ans x C
    rw [show dkOf wrdE (e :: C) = (.inl e.1, wrdE e) :: dkOf wrdE C from rfl, getK_cons]
    unfold ansW
    rw [List.find?_cons]
    by_cases h : e.1 = x
    · simp [h, ansD]
    · have h1 : ¬ ((Sum.inl e.1 : Key) = .inl x) := fun z => h (Sum.inl.inj z)
      rw [if_neg h1, decide_eq_false h, ih]
      rfl
theorem full_start {ss : List (List Int)} {B s : Int} (h : (s.natAbs : Int) ≤ B) : ansW (full ss B s) s = some [] := by
  obtain ⟨R, e⟩ := bfs_pre ss B (2 * B + 2).toNat 0 [(s, none, [])]
  unfold full
  rw [if_pos h, e]
  unfold ansW
  simp
theorem ansW_some {C : List BEn} {x : Int} {w : List Nat} (h : ansW C x = some w) : ∃ e ∈ C, e.1 = x ∧ e.2.2 = w := by
  unfold ansW at h
  obtain ⟨e, h1, h2⟩ := Option.map_eq_some_iff.mp h
  exact ⟨e, List.mem_of_find?_eq_some h1, by simpa using List.find?_some h1, h2⟩
theorem ans_small {ss : List (List Int)} (R : Row ss) {B s x : Int} (hB : 0 ≤ B ∧ B ≤ 999) : ∀ w, ansW (full ss B s) x = some w → w.length ≤ 4000 ∧ ∀ k ∈ w, k < 8 := fun w h => by
  obtain ⟨e, h1, h2, rfl⟩ := ansW_some h
  have G : GoodB ss B s (full ss B s) := full_good
  obtain ⟨i, hi⟩ := List.getElem?_of_mem h1
  have := G.wlen (i + 1) i e (by omega) hi
  have hl := (List.getElem?_eq_some_iff.mp hi).1
  have gl := G.len hB.1
  refine ⟨by omega, fun k hk => ?_⟩
  have := G.idx e h1 k hk
  have := R.few
  omega
abbrev bdRep : SM := (sSet 7 (eCall 2 (mr__law_led_to 5000) (qCons (eOp ixD (eName 0) (eName 8)) (qCons (eName 7) qNil))))
theorem replay {ss : List (List Int)} (R : Row ss) {B s x : Int} {w : List Nat} (hB : B ≤ 999) {a1 a2 a3 a4 a5 a6 : Option (Bool × D)} {ls : LS} (h : PathB ss B s w x) : ∀ (rest : List D) (t8 : Option (Bool × D)), ∃ u8,
    forL (tgN 8) bdRep ((w.map fun (k : Nat) => D.int k) ++ rest) [some (false, stepsD ss), a1, a2, a3, a4, a5, a6, some (false, .int s), t8] ls = forL (tgN 8) bdRep rest [some (false, stepsD ss), a1, a2, a3, a4, a5, a6, some (false, .int x), u8] ls := by
  induction h with
  | nil _ => exact fun rest t8 => ⟨t8, rfl⟩
  | @snoc w y k cs hp hk hb ih =>
    intro rest t8
    obtain ⟨u8, e⟩ := ih (.int k :: rest) t8
    have hy := hp.le
    have e1 := run_led_to (h := y) (by omega) (R.all cs (List.mem_of_getElem? hk)) ls
    have e2 : atI (ss.map stepD) (k : Int) = some (stepD cs) := atI_nat (by simp [hk])
    refine ⟨some (false, .int k), ?_⟩
    rw [List.map_append, List.append_assoc]
    refine e.trans ?_
    rw [forL_cons]
    simp [e1, e2]
theorem run_pair {ss : List (List Int)} (R : Row ss) (s g : Int) (hs : wide60 s) (hg : g.natAbs ≤ 900) (ls : LS) : mr__law_pair_right 5000 [stepsD ss, .int s, .int g] ls = .ok (.sh, .bl true) ls := by
  have hr := bndS_rng R
  have hB : 0 ≤ max (bndS ss) (g.natAbs : Int) ∧ max (bndS ss) (g.natAbs : Int) ≤ 999 := by omega
  have e1 := run_most R ls
  have e2 := run_words R hB s ls
  have e3 := run_reach R s g hs hB.2 (by omega) ls
  have e4 := run_like (ans_small R hB (s := s) (x := g)) ls
  have h0 : (0 : Nat) ≤ sizeLine := Nat.zero_le _
  have h2 : 2 ≤ sizeLine := by rw [sizeLine_eq]; omega
  have due : ∀ (f : Fg), bindR (if s = g then Res.ok (Fg.sh, D.tup []) ls else Res.ok (Fg.sh, (getK (dkOf wrdE (full ss (max (bndS ss) (g.natAbs : Int)) s)) (.inl g)).getD .non) ls) (fun z s1 => (Res.ok z s1 : Res (Fg × D))) = .ok (.sh, ansD (ansW (full ss (max (bndS ss) (g.natAbs : Int)) s) g)) ls := fun _ => by
    by_cases h : s = g
    · subst h
      rw [full_start (by omega)]
      simp [ansD]
    · simp [h, get_ans]
  have dueD : (if s = g then D.tup [] else ansD (ansW (full ss (max (bndS ss) (g.natAbs : Int)) s) g)) = ansD (ansW (full ss (max (bndS ss) (g.natAbs : Int)) s) g) := by
    by_cases h : s = g
    · subst h
      rw [full_start (by omega)]
      simp [ansD]
    · simp [h]
  cases ho : ansW (full ss (max (bndS ss) (g.natAbs : Int)) s) g with
  | none =>
    have hn : s ≠ g := fun z => by
      subst z
      rw [full_start (by omega)] at ho
      cases ho
    rw [ho] at e3 e4
    simp only [ansD] at e3 e4
    have hq := get_ans g (full ss (max (bndS ss) (g.natAbs : Int)) s)
    rw [ho] at hq
    simp only [ansD] at hq
    simp [mr__law_pair_right, mirOf_ev, mb__law_pair_right, e1, e2, h2, hn, eGet1, getD1, hq, e3, e4]
  | some w =>
    obtain ⟨e, m1, m2, m3⟩ := ansW_some ho
    have G : GoodB ss (max (bndS ss) (g.natAbs : Int)) s (full ss (max (bndS ss) (g.natAbs : Int)) s) := full_good
    have pth := G.path e m1
    rw [m2, m3] at pth
    rw [ho] at e3 e4
    simp only [ansD] at e3 e4
    by_cases hn : s = g
    · have hw : w = [] := by
        subst hn
        rw [full_start (by omega)] at ho
        exact (Option.some.inj ho).symm
      subst hw
      simp only [wrdD, List.map_nil] at e3 e4
      subst hn
      simp [mr__law_pair_right, mirOf_ev, mb__law_pair_right, e1, e2, h2, e3, e4]
    · have hq := get_ans g (full ss (max (bndS ss) (g.natAbs : Int)) s)
      rw [ho] at hq
      simp only [ansD] at hq
      obtain ⟨u8, er⟩ := replay R hB.2 (a1 := some (false, .int s)) (a2 := some (false, .int g)) (a3 := some (false, .int (max (bndS ss) (g.natAbs : Int)))) (a4 := some (true, .dk (dkOf wrdE (full ss (max (bndS ss) (g.natAbs : Int)) s)))) (a5 := some (false, wrdD w)) (a6 := some (false, wrdD w)) (ls := ls) pth [] none
      simp only [List.append_nil, forL_nil, bdRep] at er
      simp [mr__law_pair_right, mirOf_ev, mb__law_pair_right, e1, e2, h2, hn, eGet1, getD1, hq, e3, e4, er]
end BL
end

section
set_option Elab.async false
set_option linter.all false
set_option maxRecDepth 100000
set_option maxHeartbeats 4000000
namespace BL
open PySem PySem.Spec PyProof.Rows L2
abbrev bdGo : SM := (sIf (bNot (tOf (eCall 3 (mr__law_pair_right 5000) (qCons (eName 1) (qCons (eName 3) (qCons (eName 5) qNil)))))) (sRet (eC (.bl false))) sNext)
theorem go_loop {ss : List (List Int)} (R : Row ss) {s : Int} (hs : wide60 s) {a0 a2 a4 a6 a7 a8 : Option (Bool × D)} {ls : LS} : ∀ (gs : List Int) (t5 : Option (Bool × D)), (∀ g ∈ gs, g.natAbs ≤ 900) →
    ∃ u5, forL (tgN 5) bdGo (gs.map .int) [a0, some (false, stepsD ss), a2, some (false, .int s), a4, t5, a6, a7, a8] ls = .ok (.nx [a0, some (false, stepsD ss), a2, some (false, .int s), a4, u5, a6, a7, a8]) ls
  | [], t5, _ => ⟨t5, rfl⟩
  | g :: gs, t5, h => by
    have e1 := run_pair R s g hs (h g List.mem_cons_self) ls
    obtain ⟨u5, e2⟩ := go_loop R hs (a0 := a0) (a2 := a2) (a4 := a4) (a6 := a6) (a7 := a7) (a8 := a8) (ls := ls) gs (some (false, .int g)) fun x hx => h x (List.mem_cons_of_mem _ hx)
    refine ⟨u5, ?_⟩
    rw [List.map_cons, forL_cons]
    simp [e1]
    exact e2
theorem more_ok {ss : List (List Int)} (R : Row ss) {s x d : Int} (R2 : Row (ss ++ [[d, 2]])) (hx : x.natAbs ≤ 900) {w : List Nat} (h : ansW (full ss (max (bndS ss) (x.natAbs : Int)) s) x = some w) : ∃ w2, ansW (full (ss ++ [[d, 2]]) (max (bndS (ss ++ [[d, 2]])) (x.natAbs : Int)) s) x = some w2 ∧ w2.length ≤ w.length := by
  obtain ⟨e, m1, m2, m3⟩ := ansW_some h
  have G : GoodB ss (max (bndS ss) (x.natAbs : Int)) s (full ss (max (bndS ss) (x.natAbs : Int)) s) := full_good
  have pth := G.path e m1
  rw [m2, m3] at pth
  have hb : bndS ss ≤ bndS (ss ++ [[d, 2]]) := by
    obtain ⟨⟨c, q1, q2⟩, _⟩ := bndS_mem R
    have := (bndS_mem R2).2 c (List.mem_append_left _ q1)
    omega
  obtain ⟨a, b1, b2, b3⟩ := full_min (pth.mono (B' := max (bndS (ss ++ [[d, 2]])) (x.natAbs : Int)) (rw0' := ss ++ [[d, 2]]) (by omega) fun k cs hk => by
    rw [List.getElem?_append_left (List.getElem?_eq_some_iff.mp hk).1]
    exact hk)
  have G2 : GoodB (ss ++ [[d, 2]]) (max (bndS (ss ++ [[d, 2]])) (x.natAbs : Int)) s (full (ss ++ [[d, 2]]) (max (bndS (ss ++ [[d, 2]])) (x.natAbs : Int)) s) := full_good
  refine ⟨a.2.2, ?_, b3⟩
  rw [← b2]
  rw [← b2] at b1 G2
  exact ansW_at G2.nd b1
/-- the last goal, however it was drawn -/
theorem run_last {b : Nat} {s : LS} (h : LOk (b + 1) s) {ss : List (List Int)} (R : Row ss) (f : Int) (hf : f.natAbs ≤ 900) {a0 a1 a2 a5 a6 a7 a8 : Option (Bool × D)} (h0 : a0 = some (false, .st)) : ∃ x s', x.natAbs ≤ 900 ∧ (∃ w, ansW (full ss (max (bndS ss) (x.natAbs : Int)) f) x = some w) ∧ LOk b s' ∧
    (eIf (tOf (eOp neD0 (eName 4) eDk0)) (eCall 2 (mr__law_of 5000) (qCons (eName 0) (qCons (eCB listD (rCons (eName 4) aNil)) qNil))) (eName 3)) [a0, a1, a2, some (false, .int f), some (false, .dk (dkOf wrdE (full ss (bndS ss) f))), a5, a6, a7, a8] s = .ok (.sh, .int x) s' := by
  subst h0
  have hr := bndS_rng R
  have G : GoodB ss (bndS ss) f (full ss (bndS ss) f) := full_good
  have gl := G.len (by omega)
  cases hC : full ss (bndS ss) f with
  | nil =>
    refine ⟨f, s, hf, ⟨[], full_start (by omega)⟩, h.mono (by omega), ?_⟩
    simp [show dkOf wrdE [] = [] from rfl]
  | cons a C =>
    rw [hC] at G gl
    obtain ⟨d, s2, m2, e2, L2⟩ := run_of (b := b) h ((keys (a :: C)).map .int) (by simp [keys]) (by simp [keys] at gl ⊢; omega)
    obtain ⟨x, mk, rfl⟩ := List.mem_map.mp m2
    obtain ⟨e, he, rfl⟩ := List.mem_map.mp mk
    have hx := (G.path e he).le
    refine ⟨e.1, s2, by omega, ⟨e.2.2, ?_⟩, L2, ?_⟩
    · rw [show max (bndS ss) (e.1.natAbs : Int) = bndS ss by omega, hC]
      exact ansW_at G.nd he
    · simp [dk_emp, dk_keys, e2]
theorem run_right {b : Nat} {s : LS} (h : LOk (b + 20) s) : ∃ s', mr__law_right 5000 [.st] s = .ok (.sh, .bl true) s' ∧ LOk b s' := by
  obtain ⟨ss, s1, R, hl3, e1, L1⟩ := run_choices (b := b + 7) h
  have hr := bndS_rng R
  have e2 := run_most R s1
  obtain ⟨v, s2, e3, v1, v2, L2⟩ := run_draw (b := b + 6) L1 (n := 2 * bndS ss + 3) (by omega) (by omega)
  have e4 := run_words R (B := bndS ss) (by omega) (v - bndS ss - 1) s2
  have G : GoodB ss (bndS ss) (v - bndS ss - 1) (full ss (bndS ss) (v - bndS ss - 1)) := full_good
  have gl := G.len (by omega)
  obtain ⟨gs, fg, s3, nb, g1, g2, e5, L3⟩ := run_goals (b := b + 4) L2 (full ss (bndS ss) (v - bndS ss - 1)) (by omega) (bndS ss) hr
  obtain ⟨u5, e6⟩ := go_loop R (s := v - bndS ss - 1) (by unfold wide60; omega) (a0 := some (false, .st)) (a2 := some (false, .int (bndS ss))) (a4 := some (false, .dk (dkOf wrdE (full ss (bndS ss) (v - bndS ss - 1))))) (a6 := none) (a7 := none) (a8 := none) (ls := s3) (gs ++ [v - bndS ss - 1]) none (fun g hg => by
    rcases List.mem_append.mp hg with hg | hg
    · rcases g2 g hg with q | q
      · omega
      · obtain ⟨e, he, rfl⟩ := List.mem_map.mp q
        have := (G.path e he).le
        omega
    · simp at hg
      subst hg
      omega)
  obtain ⟨c, s4, e7, c1, c2, L4⟩ := run_draw (b := b + 3) L3 (n := 20) (by decide) (by decide)
  obtain ⟨k, s5, e8, k1, k2, L5⟩ := run_draw (b := b + 2) L4 (n := bndS ss + 1) (by omega) (by omega)
  have e9 := run_reach R (bndS ss + 5 + c) k (by unfold wide60; omega) (by omega) (by omega) s5
  rw [show ansW (full ss (max (bndS ss) (k.natAbs : Int)) (bndS ss + 5 + c)) k = none by unfold full; rw [if_neg (by omega)]; rfl] at e9
  simp only [ansD] at e9
  have e10 : mr__law_like 5000 [.non, .non] s5 = .ok (.sh, .bl true) s5 := run_like (o := none) (fun _ h => (nomatch h)) s5
  obtain ⟨d, s6, e11, d1, d2, L6⟩ := run_draw (b := b + 1) L5 (n := 5) (by decide) (by decide)
  have R2 : Row (ss ++ [[d - 2, 2]]) := ⟨fun cs hc => by
    rcases List.mem_append.mp hc with hc | hc
    · exact R.all cs hc
    · simp at hc
      subst hc
      exact mem_t1 (by omega) (by simp), by simp, by simp; omega⟩
  have z1 : ∀ n : Nat, n ≤ 200 → n ≤ sizeLine := fun n hn => by rw [sizeLine_eq]; omega
  obtain ⟨x, s7, x1, ⟨w, hw⟩, L7, e12⟩ := run_last (b := b) L6 R (v - bndS ss - 1) (by omega) (a0 := some (false, .st)) (a1 := some (false, stepsD ss)) (a2 := some (false, .int (bndS ss))) (a5 := u5) (a6 := some (false, .int (bndS ss + 5 + c))) (a7 := some (false, .tup (ss.map stepD ++ [.tup [.tup [.int (d - 2), .int 1], .tup [.int 2, .int 1]]]))) (a8 := none) rfl
  obtain ⟨w2, hw2, wl⟩ := more_ok R R2 x1 hw
  have hr2 := bndS_rng R2
  have e13 := run_reach R (v - bndS ss - 1) x (by unfold wide60; omega) (by omega) (by omega) s7
  have e14 := run_reach R2 (v - bndS ss - 1) x (by unfold wide60; omega) (by omega) (by omega) s7
  rw [hw] at e13
  rw [hw2] at e14
  simp only [ansD] at e13 e14
  refine ⟨s7, ?_, L7⟩
  simp only [List.map_append, List.map_cons, List.map_nil] at e6
  rw [show stepsD (ss ++ [[d - 2, 2]]) = .tup (ss.map stepD ++ [.tup [.tup [.int (d - 2), .int 1], .tup [.int 2, .int 1]]]) by simp] at e14
  have hm2 : Nat.log2 2 + (bndS ss).natAbs.log2 < 1000000 := by
    have : (2 : Int).natAbs.log2 + (bndS ss).natAbs.log2 < 1000000 := mul_ok (by decide) (by omega)
    exact this
  simp only [mr__law_right, mirOf_ev, mb__law_right, startB_ev]
  simp [e1, e2, e3, e4, e5, nb, hm2, z1, z1 (gs.length + 1) (by omega), -eIf_ev]
  rw [e6]
  simp [e7, e8, e9, e10, e11, z1, z1 (ss.length + 1) (by omega), -eIf_ev]
  rw [e12]
  simp [e13, e14, wl, z1]
theorem k_two1 (ls : LS) : mr_reach 5000 [.tup [.tup [numD (-5), numD 0, numD 1], .tup [numD 1, numD 2]], numD 0, numD 1] ls = .ok (.sh, .tup [.int 1]) ls := by kernel_rfl
theorem k_two2 (ls : LS) : mr_reach 5000 [.tup [.tup [numD (-5), numD 0, numD 1], .tup [numD 1, numD 2]], numD 0, numD 3] ls = .ok (.sh, .tup [.int 1, .int 1]) ls := by kernel_rfl
theorem k_two3 (ls : LS) : mr_reach 5000 [.tup [.tup [numD (-5), numD 0, numD 1], .tup [numD 1, numD 2]], numD 0, numD 2] ls = .ok (.sh, .non) ls := by kernel_rfl
theorem k_two4 (ls : LS) : mr_reach 5000 [.tup [.tup [numD (-5), numD 0, numD 1], .tup [numD 1, numD 2]], numD (10 ^ 60), numD (10 ^ 2)] ls = .ok (.sh, .non) ls := by kernel_rfl
theorem k_two5 (ls : LS) : mr_reach 5000 [.tup [.tup [numD (-5), numD 0, numD 1], .tup [numD 1, numD 2]], numD 3, numD 3] ls = .ok (.sh, .tup []) ls := by kernel_rfl
theorem k_like (ls : LS) : mr__law_like 5000 [.lst [.tup [.int 1], .tup [.int 1, .int 1], .non, .non, .tup []], .lst [.tup [.int 1], .tup [.int 1, .int 1], .non, .non, .tup []]] ls = .ok (.sh, .bl true) ls := by kernel_rfl
end BL
end

section
set_option Elab.async false
set_option linter.all false
set_option maxRecDepth 100000
set_option maxHeartbeats 4000000
namespace BL
open PySem PySem.Spec PyProof.Rows L2
theorem ls0_ok (ns : List Int) : LOk 60 (ls0 ns) := by
  have h : 0 < (cellsOf ns).length := by
    unfold cellsOf
    split
    · simp
    · cases ns with
      | nil => simp_all
      | cons a t => simp
  refine ⟨rfl, ?_, h, ?_, ?_⟩
  · simp [ls0, leftsOf]
  · simp [ls0, leftsOf]
  · simp [ls0, leftsOf]
theorem run_law (ns : List Int) : ∃ z ls', mb_law 5000 (none :: some (false, .st) :: List.replicate 3 none) (ls0 ns) = .ok (.rt z) ls' ∧ z = (.sh, .bl true) := by
  obtain ⟨s1, e1, L1⟩ := run_right (b := 40) (ls0_ok ns)
  obtain ⟨s2, e2, L2⟩ := run_right (b := 20) L1
  obtain ⟨s3, e3, L3⟩ := run_right (b := 0) L2
  have z1 : ∀ n : Nat, n ≤ 200 → n ≤ sizeLine := fun n hn => by rw [sizeLine_eq]; omega
  have z2 : ∀ n : Nat, n ≤ 200 → n < sizeLine := fun n hn => by rw [sizeLine_eq]; omega
  have hr : rngO [.int 3] = some [.int 0, .int 1, .int 2] := rfl
  refine ⟨_, s3, ?_, rfl⟩
  have f1 := k_two1 s3
  have f2 := k_two2 s3
  have f3 := k_two3 s3
  have f4 := k_two4 s3
  have f5 := k_two5 s3
  have f6 := k_like s3
  simp only [numD] at f1 f2 f3 f5
  simp only [numD, Int.reducePow] at f4
  have p1 : powD (.int 10) (.int 60) = some (.sh, .int (10 ^ 60)) := rfl
  have p2 : powD (.int 10) (.int 2) = some (.sh, .int (10 ^ 2)) := rfl
  unfold mb_law
  simp [-powD_int, forL_cons, hr, e1, e2, e3, z1, z2, f1, f2, f3, f4, f5, f6, p1, p2]
end BL
end

set_option maxRecDepth 100000 in
theorem PySem.Challenge.cw_stepswithin_k82_whole_least_words_to_goa_holds : PySem.Challenge.rw_stepswithin_k82_whole_least_words_to_goa.Holds := by
  exact BL.holds_of 5000 fun ns _ => BL.run_law ns
