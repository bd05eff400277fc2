import PyProof.Rows.All
import Wide.All
import OpenK.AllK
import Wide.FinOn
import HandS.ForMost
import HandS.Wide
import HandS.TupAny
import HandS.Steps
import PyProof.P3Eq
import PyProof.NeData
import HandS.TupLen
import HandS.Flow
import HandS.IsInst
import HandS.Walk
import HandS.Comp
import HandS.Iter
import HandS.Head0
import HandS.Head1
import HandS.Head2
import HandS.HeadEnd
import HandS.HeadHook1
import HandS.HeadHook2
import PySem.Challenge.RW_farjump_k01_words
set_option Elab.async false
set_option linter.all false
set_option maxRecDepth 100000
set_option maxHeartbeats 0
/-! Data as trees, where they stand, what is owned. -/
namespace FJ
open PySem L2

/-- a value as a tree -/
inductive D where
  | non | bl (b : Bool) | int (i : Int) | str (s : Str)
  | tup (xs : List D) | lst (xs : List D)
  | dK (ks : List Key) (vs : List D) | dT (ks : List (List Key)) (vs : List D)
  | obj (c : Nat) (fs : List D)
  | scr (ns : List Int)
  deriving Inhabited

/-- the module's part, the classes by number: where they stand, their fields in order -/
structure Ct where
  K : PySem.W.Frag
  cls : Nat → Addr
  fld : Nat → List Str

mutual
inductive Rep (C : Ct) (G : Hp) : D → V → Prop
  | non : Rep C G .non .non
  | bl {b : Bool} : Rep C G (.bl b) (.bl b)
  | int {i : Int} : Rep C G (.int i) (.int i)
  | str {s : Str} : Rep C G (.str s) (.str s)
  | tup {p : Addr} {vs : List V} {ds : List D} : G p = some (.tup vs) → Reps C G ds vs → Rep C G (.tup ds) (.ref p)
  | lst {p : Addr} {vs : List V} {ds : List D} : G p = some (.lst vs) → Reps C G ds vs → Rep C G (.lst ds) (.ref p)
  | scr {p : Addr} {ns : List Int} : SqL C.K G p (ns.map V.int) → Rep C G (.scr ns) (.ref p)
  | dK {p : Addr} {ks : List Key} {vs : List V} {ds : List D} : G p = some (.dK (ks.zip vs)) → ks.length = ds.length → Reps C G ds vs → Rep C G (.dK ks ds) (.ref p)
  | dT {p : Addr} {ks : List (List Key)} {vs : List V} {ds : List D} : G p = some (.dT (ks.zip vs)) → ks.length = ds.length → Reps C G ds vs → Rep C G (.dT ks ds) (.ref p)
  | obj {p dx : Addr} {c : Nat} {vs : List V} {ds : List D} : G p = some (.ins (C.cls c) dx ((C.fld c).zip vs)) → Reps C G ds vs → Rep C G (.obj c ds) (.ref p)
inductive Reps (C : Ct) (G : Hp) : List D → List V → Prop
  | nil : Reps C G [] []
  | cons {d : D} {v : V} {ds : List D} {vs : List V} : Rep C G d v → Reps C G ds vs → Reps C G (d :: ds) (v :: vs)
end

/-- one mutable object whose parts stand still -/
inductive Flat (C : Ct) (G : Hp) : D → HO → Prop
  | lst {ds : List D} {vs : List V} : Reps C G ds vs → Flat C G (.lst ds) (.lst vs)
  | dK {ks : List Key} {ds : List D} {vs : List V} : ks.length = ds.length → Reps C G ds vs → Flat C G (.dK ks ds) (.dK (ks.zip vs))
  | dT {ks : List (List Key)} {ds : List D} {vs : List V} : ks.length = ds.length → Reps C G ds vs → Flat C G (.dT ks ds) (.dT (ks.zip vs))
  | obj {c : Nat} {dx : Addr} {ds : List D} {vs : List V} : Reps C G ds vs → Flat C G (.obj c ds) (.ins (C.cls c) dx ((C.fld c).zip vs))

/-- a value and who may change it: fr stands still, ow is ours with parts that stand still, the others are ours with parts of ours -/
inductive T where
  | fr (d : D) | ow (d : D)
  | nl (ts : List T) | nt (ts : List T) | nd (ks : List Key) (ts : List T) | no (c : Nat) (ts : List T)
  deriving Inhabited
mutual
def T.toD : T → D
  | .fr d => d
  | .ow d => d
  | .nl ts => .lst (T.toDs ts)
  | .nt ts => .tup (T.toDs ts)
  | .nd ks ts => .dK ks (T.toDs ts)
  | .no c ts => .obj c (T.toDs ts)
def T.toDs : List T → List D
  | [] => []
  | t :: ts => T.toD t :: T.toDs ts
end

mutual
inductive Own (C : Ct) (G H : Hp) : T → V → (Addr → Prop) → Prop
  | fr {d : D} {v : V} {A : Addr → Prop} : Rep C G d v → (∀ a, ¬ A a) → Own C G H (.fr d) v A
  | ow {d : D} {p : Addr} {o : HO} {A : Addr → Prop} : H p = some o → G p = none → Flat C G d o → (∀ a, A a ↔ a = p) → Own C G H (.ow d) (.ref p) A
  | nl {ts : List T} {p : Addr} {vs : List V} {A B : Addr → Prop} : H p = some (.lst vs) → G p = none → Owns C G H ts vs B → ¬ B p → (∀ a, A a ↔ a = p ∨ B a) → Own C G H (.nl ts) (.ref p) A
  | nt {ts : List T} {p : Addr} {vs : List V} {A B : Addr → Prop} : H p = some (.tup vs) → G p = none → Owns C G H ts vs B → ¬ B p → (∀ a, A a ↔ a = p ∨ B a) → Own C G H (.nt ts) (.ref p) A
  | nd {ks : List Key} {ts : List T} {p : Addr} {vs : List V} {A B : Addr → Prop} : H p = some (.dK (ks.zip vs)) → G p = none → ks.length = ts.length → Owns C G H ts vs B → ¬ B p → (∀ a, A a ↔ a = p ∨ B a) → Own C G H (.nd ks ts) (.ref p) A
  | no {c : Nat} {ts : List T} {p dx : Addr} {vs : List V} {A B : Addr → Prop} : H p = some (.ins (C.cls c) dx ((C.fld c).zip vs)) → G p = none → Owns C G H ts vs B → ¬ B p → (∀ a, A a ↔ a = p ∨ B a) → Own C G H (.no c ts) (.ref p) A
inductive Owns (C : Ct) (G H : Hp) : List T → List V → (Addr → Prop) → Prop
  | nil {A : Addr → Prop} : (∀ a, ¬ A a) → Owns C G H [] [] A
  | cons {t : T} {v : V} {ts : List T} {vs : List V} {A B D : Addr → Prop} : Own C G H t v A → Owns C G H ts vs B → (∀ a, A a → ¬ B a) → (∀ a, D a ↔ A a ∨ B a) → Owns C G H (t :: ts) (v :: vs) D
end

section
variable {C : Ct} {G G' H H' : Hp}
mutual
theorem Rep.mono (s : Same G G') : ∀ {d : D} {v : V}, Rep C G d v → Rep C G' d v
  | _, _, .non => .non
  | _, _, .bl => .bl
  | _, _, .int => .int
  | _, _, .str => .str
  | _, _, .tup h r => .tup (s _ _ h) (Reps.mono s r)
  | _, _, .lst h r => .lst (s _ _ h) (Reps.mono s r)
  | _, _, .scr h => .scr (Same.seq s h)
  | _, _, .dK h l r => .dK (s _ _ h) l (Reps.mono s r)
  | _, _, .dT h l r => .dT (s _ _ h) l (Reps.mono s r)
  | _, _, .obj h r => .obj (s _ _ h) (Reps.mono s r)
theorem Reps.mono (s : Same G G') : ∀ {ds : List D} {vs : List V}, Reps C G ds vs → Reps C G' ds vs
  | _, _, .nil => .nil
  | _, _, .cons a b => .cons (Rep.mono s a) (Reps.mono s b)
end
theorem Reps.length : ∀ {ds : List D} {vs : List V}, Reps C G ds vs → ds.length = vs.length
  | _, _, .nil => rfl
  | _, _, .cons _ b => by simp [Reps.length b]
theorem Reps.get : ∀ {ds : List D} {vs : List V} {i : Nat} {d : D}, Reps C G ds vs → ds[i]? = some d → ∃ v, vs[i]? = some v ∧ Rep C G d v
  | _, _, _, _, .nil, e => by simp at e
  | _, _, 0, _, .cons a _, e => by simp at e; subst e; exact ⟨_, rfl, a⟩
  | _, _, i + 1, _, .cons _ b, e => by
    obtain ⟨v, h1, h2⟩ := Reps.get (i := i) b (by simpa using e)
    exact ⟨v, by simpa using h1, h2⟩
theorem Reps.getV : ∀ {ds : List D} {vs : List V} {i : Nat} {v : V}, Reps C G ds vs → vs[i]? = some v → ∃ d, ds[i]? = some d ∧ Rep C G d v
  | _, _, _, _, .nil, e => by simp at e
  | _, _, 0, _, .cons a _, e => by simp at e; subst e; exact ⟨_, rfl, a⟩
  | _, _, i + 1, _, .cons _ b, e => by
    obtain ⟨v, h1, h2⟩ := Reps.getV (i := i) b (by simpa using e)
    exact ⟨v, by simpa using h1, h2⟩
theorem Reps.app : ∀ {ds es : List D} {vs us : List V}, Reps C G ds vs → Reps C G es us → Reps C G (ds ++ es) (vs ++ us)
  | _, _, _, _, .nil, s => s
  | _, _, _, _, .cons a b, s => .cons a (Reps.app b s)
theorem Reps.take : ∀ {ds : List D} {vs : List V} (n : Nat), Reps C G ds vs → Reps C G (ds.take n) (vs.take n)
  | _, _, 0, _ => .nil
  | _, _, _ + 1, .nil => .nil
  | _, _, n + 1, .cons a b => .cons a (Reps.take n b)
theorem Reps.drop : ∀ {ds : List D} {vs : List V} (n : Nat), Reps C G ds vs → Reps C G (ds.drop n) (vs.drop n)
  | _, _, 0, r => r
  | _, _, _ + 1, .nil => .nil
  | _, _, n + 1, .cons _ b => Reps.drop n b
theorem Reps.set : ∀ {ds : List D} {vs : List V} {d : D} {v : V} (i : Nat), Rep C G d v → Reps C G ds vs → Reps C G (ds.set i d) (vs.set i v)
  | _, _, _, _, _, _, .nil => .nil
  | _, _, _, _, 0, r, .cons _ b => .cons r b
  | _, _, _, _, i + 1, r, .cons a b => .cons a (Reps.set i r b)
theorem Reps.one {d : D} {v : V} (r : Rep C G d v) : Reps C G [d] [v] := .cons r .nil
theorem Flat.mono (s : Same G G') {d : D} {o : HO} (f : Flat C G d o) : Flat C G' d o := by
  cases f with
  | lst r => exact .lst (Reps.mono s r)
  | dK l r => exact .dK l (Reps.mono s r)
  | dT l r => exact .dT l (Reps.mono s r)
  | obj r => exact .obj (Reps.mono s r)
theorem Flat.rep {d : D} {o : HO} {p : Addr} (f : Flat C G d o) (h : G p = some o) : Rep C G d (.ref p) := by
  cases f with
  | lst r => exact .lst h r
  | dK l r => exact .dK h l r
  | dT l r => exact .dT h l r
  | obj r => exact .obj h r
mutual
theorem Own.dom : ∀ {t : T} {v : V} {A : Addr → Prop} {a : Addr}, Own C G H t v A → A a → G a = none ∧ H a ≠ none
  | _, _, _, _, .fr _ n, h => (n _ h).elim
  | _, _, _, _, .ow h1 h2 _ e, h => by have := (e _).mp h; subst this; exact ⟨h2, by rw [h1]; simp⟩
  | _, _, _, _, .nl h1 h2 o _ e, h => by
    rcases (e _).mp h with rfl | h
    · exact ⟨h2, by rw [h1]; simp⟩
    · exact Owns.dom o h
  | _, _, _, _, .nt h1 h2 o _ e, h => by
    rcases (e _).mp h with rfl | h
    · exact ⟨h2, by rw [h1]; simp⟩
    · exact Owns.dom o h
  | _, _, _, _, .nd h1 h2 _ o _ e, h => by
    rcases (e _).mp h with rfl | h
    · exact ⟨h2, by rw [h1]; simp⟩
    · exact Owns.dom o h
  | _, _, _, _, .no h1 h2 o _ e, h => by
    rcases (e _).mp h with rfl | h
    · exact ⟨h2, by rw [h1]; simp⟩
    · exact Owns.dom o h
theorem Owns.dom : ∀ {ts : List T} {vs : List V} {A : Addr → Prop} {a : Addr}, Owns C G H ts vs A → A a → G a = none ∧ H a ≠ none
  | _, _, _, _, .nil n, h => (n _ h).elim
  | _, _, _, _, .cons o os _ e, h => by
    rcases (e _).mp h with h | h
    · exact Own.dom o h
    · exact Owns.dom os h
end
mutual
theorem Own.mono (s : Same G G') : ∀ {t : T} {v : V} {A : Addr → Prop}, Own C G H t v A → (∀ a, A a → G' a = none) → (∀ a o, A a → H a = some o → H' a = some o) → Own C G' H' t v A
  | _, _, _, .fr r n, _, _ => .fr (Rep.mono s r) n
  | _, _, _, .ow h1 h2 f e, g, k => .ow (k _ _ ((e _).mpr rfl) h1) (g _ ((e _).mpr rfl)) (Flat.mono s f) e
  | _, _, _, .nl h1 h2 o n e, g, k => .nl (k _ _ ((e _).mpr (.inl rfl)) h1) (g _ ((e _).mpr (.inl rfl))) (Owns.mono s o (fun a h => g a ((e a).mpr (.inr h))) fun a u h => k a u ((e a).mpr (.inr h))) n e
  | _, _, _, .nt h1 h2 o n e, g, k => .nt (k _ _ ((e _).mpr (.inl rfl)) h1) (g _ ((e _).mpr (.inl rfl))) (Owns.mono s o (fun a h => g a ((e a).mpr (.inr h))) fun a u h => k a u ((e a).mpr (.inr h))) n e
  | _, _, _, .nd h1 h2 l o n e, g, k => .nd (k _ _ ((e _).mpr (.inl rfl)) h1) (g _ ((e _).mpr (.inl rfl))) l (Owns.mono s o (fun a h => g a ((e a).mpr (.inr h))) fun a u h => k a u ((e a).mpr (.inr h))) n e
  | _, _, _, .no h1 h2 o n e, g, k => .no (k _ _ ((e _).mpr (.inl rfl)) h1) (g _ ((e _).mpr (.inl rfl))) (Owns.mono s o (fun a h => g a ((e a).mpr (.inr h))) fun a u h => k a u ((e a).mpr (.inr h))) n e
theorem Owns.mono (s : Same G G') : ∀ {ts : List T} {vs : List V} {A : Addr → Prop}, Owns C G H ts vs A → (∀ a, A a → G' a = none) → (∀ a o, A a → H a = some o → H' a = some o) → Owns C G' H' ts vs A
  | _, _, _, .nil n, _, _ => .nil n
  | _, _, _, .cons o os n e, g, k => .cons (Own.mono s o (fun a h => g a ((e a).mpr (.inl h))) fun a u h => k a u ((e a).mpr (.inl h))) (Owns.mono s os (fun a h => g a ((e a).mpr (.inr h))) fun a u h => k a u ((e a).mpr (.inr h))) n e
end
mutual
/-- what is owned is laid to what stands still -/
theorem Own.freeze (s : Same G G') : ∀ {t : T} {v : V} {A : Addr → Prop}, Own C G H t v A → (∀ a o, A a → H a = some o → G' a = some o) → Rep C G' t.toD v
  | _, _, _, .fr r n, _ => Rep.mono s r
  | _, _, _, .ow h1 h2 f e, k => Flat.rep (Flat.mono s f) (k _ _ ((e _).mpr rfl) h1)
  | _, _, _, .nl h1 h2 o n e, k => .lst (k _ _ ((e _).mpr (.inl rfl)) h1) (Owns.freeze s o fun a u h => k a u ((e a).mpr (.inr h)))
  | _, _, _, .nt h1 h2 o n e, k => .tup (k _ _ ((e _).mpr (.inl rfl)) h1) (Owns.freeze s o fun a u h => k a u ((e a).mpr (.inr h)))
  | _, _, _, .nd h1 h2 l o n e, k => .dK (k _ _ ((e _).mpr (.inl rfl)) h1) (by rw [l]; exact (T.toDs_length _).symm) (Owns.freeze s o fun a u h => k a u ((e a).mpr (.inr h)))
  | _, _, _, .no h1 h2 o n e, k => .obj (k _ _ ((e _).mpr (.inl rfl)) h1) (Owns.freeze s o fun a u h => k a u ((e a).mpr (.inr h)))
theorem Owns.freeze (s : Same G G') : ∀ {ts : List T} {vs : List V} {A : Addr → Prop}, Owns C G H ts vs A → (∀ a o, A a → H a = some o → G' a = some o) → Reps C G' (T.toDs ts) vs
  | _, _, _, .nil n, _ => .nil
  | _, _, _, .cons o os n e, k => .cons (Own.freeze s o fun a u h => k a u ((e a).mpr (.inl h))) (Owns.freeze s os fun a u h => k a u ((e a).mpr (.inr h)))
theorem T.toDs_length : ∀ ts : List T, (T.toDs ts).length = ts.length
  | [] => rfl
  | _ :: r => by simp [T.toDs, T.toDs_length r]
end
end
end FJ

/-! A small language over trees, and what it computes. -/
namespace FJ
open PySem L2

abbrev Env := List (Option T)
/-- what an expression hands on: a value of its own, or a part of what a slot owns -/
inductive Val where
  | v (t : T) | b (i : Nat) (t : T)
  deriving Inhabited
inductive R where
  | ok (x : Val) (r : Env) | stuck
  deriving Inhabited
inductive RL where
  | ok (ds : List D) (r : Env) | stuck
  deriving Inhabited
inductive RA where
  | ok (ts : List T) (r : Env) | stuck
  deriving Inhabited
inductive RI where
  | ok (ds : List D) (hid : Option (Nat × T)) (r : Env) | stuck
  deriving Inhabited
/-- what a statement comes to -/
inductive O where
  | nx (r : Env) | rt (t : T) (r : Env) | bk (r : Env) | ct (r : Env) | stuck
  deriving Inhabited

/-- a def: which parameters it may change (io), what it hands back, the parameters behind -/
structure Fn where
  io : List Bool
  run : List T → Option (T × Env)
def Fn.pure (f : Fn) : Bool := f.io.all (! ·)

inductive Bop where | add | sub | mul | fdiv | mod | pow
inductive Cop where | lt | le | gt | ge | eq | ne | inn | nin | isn | isnt
inductive BI where | len | list | tuple | int | str | sum | all | any | max | min | divmod | sorted | dict
inductive MT where | upper | join | split | startswith | endswith | replace | partition | get | index
inductive Ty where | int | str | bool | list | tuple | dict | cls (k : Nat) (sub : List Nat)
inductive Tg where
  | name (i : Nat) | tup (ts : List Tg)
  deriving Inhabited

mutual
inductive E where
  | var (i : Nat) | cst (d : D) | neg (a : E)
  | bin (o : Bop) (a b : E) | cmp (o : Cop) (a b : E) | chain (o u : Cop) (a b c : E)
  | and (a b : E) | or (a b : E) | not (a : E) | ite (c a b : E)
  | tup (es : Es) | lst (es : Es) | dct (ks vs : Es) | dnew (t : Bool)
  | idx (a b : E) | sli (a : E) (lo hi : Oe) | fld (a : E) (f : Nat → Option Nat)
  | isi (a : E) (t : Ty) | bi (f : BI) (es : Es) | mt (m : MT) (a : E) (es : Es)
  | call (f : Fn) (as : Ar)
  | comp (e : E) (tg : Tg) (it : It) (cd : Oe)
inductive Es where
  | nil | cons (e : E) (es : Es)
inductive Oe where
  | no | so (e : E)
inductive It where
  | lst (e : E) | rng (es : Es) | enu (e : E) | zip (a b : E) | itm (e : E) | val (e : E)
inductive Ar where
  | nil | ci (e : E) (as : Ar) | cx (i : Nat) (as : Ar)
end

/-! ### what has no effect on what is owned -/
mutual
def E.pu : E → Bool
  | .var _ => true | .cst _ => true | .neg a => a.pu
  | .bin _ a b => a.pu && b.pu | .cmp _ a b => a.pu && b.pu | .chain _ _ a b c => a.pu && (b.pu && c.pu)
  | .and a b => a.pu && b.pu | .or a b => a.pu && b.pu | .not a => a.pu | .ite c a b => c.pu && (a.pu && b.pu)
  | .tup es => es.pu | .lst es => es.pu | .dct ks vs => ks.pu && vs.pu | .dnew _ => true
  | .idx a b => a.pu && b.pu | .sli a lo hi => a.pu && (lo.pu && hi.pu) | .fld a _ => a.pu
  | .isi a _ => a.pu | .bi _ es => es.pu | .mt _ a es => a.pu && es.pu
  | .call _ as => as.pu
  | .comp e _ it cd => e.pu && (it.pu && cd.pu)
def Es.pu : Es → Bool
  | .nil => true | .cons e es => e.pu && es.pu
def Oe.pu : Oe → Bool
  | .no => true | .so e => e.pu
def It.pu : It → Bool
  | .lst e => e.pu | .rng es => es.pu | .enu e => e.pu | .zip a b => a.pu && b.pu | .itm e => e.pu | .val e => e.pu
def Ar.pu : Ar → Bool
  | .nil => true | .ci e as => e.pu && as.pu | .cx _ _ => false
end

/-! ### values -/
def T.soft : T → Bool
  | .fr _ => true | .ow _ => true | _ => false
def Val.toD : Val → D
  | .v t => t.toD
  | .b _ t => t.toD
/-- what slot i owns stands still from now on -/
def frz (i : Nat) (r : Env) : Env := match r[i]? with
  | some (some t) => r.set i (some (.fr t.toD))
  | _ => r
/-- the value is read: where p, what a slot owns is read in its place -/
def useE (p : Bool) (x : Val) (r : Env) : Env := match x with
  | .v _ => r
  | .b i t => if p && t.soft then r else frz i r
/-- .. for a look that hands nothing on -/
def lookE (p : Bool) (x : Val) (r : Env) : Env := match x with
  | .v _ => r
  | .b i _ => if p then r else frz i r
def R.use (p : Bool) (r : R) (k : D → Env → R) : R := match r with
  | .ok x e => k x.toD (useE p x e)
  | .stuck => .stuck
def R.look (p : Bool) (r : R) (k : D → Env → R) : R := match r with
  | .ok x e => k x.toD (lookE p x e)
  | .stuck => .stuck
def F (d : D) (r : Env) : R := .ok (.v (.fr d)) r
def ofT (o : Option T) (r : Env) : R := match o with
  | some t => .ok (.v t) r
  | none => .stuck
def ofD (o : Option D) (r : Env) : R := match o with
  | some d => .ok (.v (.fr d)) r
  | none => .stuck

def mulOk (i j : Int) : Bool := decide (-18446744073709551616 < i ∧ i < 18446744073709551616) || decide (-18446744073709551616 < j ∧ j < 18446744073709551616)
def divOk (j : Int) : Bool := decide (0 < j ∧ j < 18446744073709551616)
def rep {α : Type} (n : Nat) (xs : List α) : List α := (List.replicate n xs).flatten
def Str.rep (n : Nat) (s : Str) : Str := ⟨(FJ.rep n s.cps.toList).toArray⟩
def binD : Bop → D → D → Option T
  | .add, .int i, .int j => some (.fr (.int (i + j)))
  | .add, .str a, .str b => if a.length + b.length ≤ sizeLine then some (.fr (.str (a ++ b))) else none
  | .add, .lst a, .lst b => if a.length + b.length ≤ sizeLine then some (.ow (.lst (a ++ b))) else none
  | .add, .tup a, .tup b => if a.length + b.length ≤ sizeLine then some (.fr (.tup (a ++ b))) else none
  | .sub, .int i, .int j => some (.fr (.int (i - j)))
  | .mul, .int i, .int j => if mulOk i j then some (.fr (.int (i * j))) else none
  | .mul, .lst a, .int j => if -9223372036854775808 ≤ j ∧ j < 9223372036854775808 ∧ a.length * j.toNat ≤ sizeLine then some (.ow (.lst (rep j.toNat a))) else none
  | .fdiv, .int i, .int j => if divOk j then some (.fr (.int (i / j))) else none
  | .mod, .int i, .int j => if 0 < j then some (.fr (.int (i % j))) else none
  | .pow, .int i, .int j => if 0 ≤ j ∧ j ≤ 1000000 ∧ i.natAbs < 18446744073709551616 then some (.fr (.int (i ^ j.toNat))) else none
  | _, _, _ => none

mutual
def D.py : D → PyData
  | .non => .none | .bl b => .bool b | .int i => .int i | .str s => .str s
  | .tup xs => .tuple (D.pys xs) | .lst xs => .list (D.pys xs)
  | .dK _ _ => .dict [] | .dT _ _ => .dict [] | .obj _ _ => .dict [] | .scr _ => .dict []
def D.pys : List D → List PyData
  | [] => [] | d :: ds => D.py d :: D.pys ds
end
mutual
/-- data of None, truths, numbers, texts, lists, tuples, at most n deep -/
def D.plain : Nat → D → Bool
  | _, .non => true | _, .bl _ => true | _, .int _ => true | _, .str _ => true
  | 0, .tup _ => false | 0, .lst _ => false
  | n + 1, .tup xs => D.plains n xs | n + 1, .lst xs => D.plains n xs
  | _, .dK _ _ => false | _, .dT _ _ => false | _, .obj _ _ => false | _, .scr _ => false
def D.plains : Nat → List D → Bool
  | _, [] => true | n, d :: ds => D.plain n d && D.plains n ds
end
/-- are two things equal -/
def eqD (a b : D) : Option Bool := if a.plain 60 && b.plain 60 then some (PyData.eqv a.py b.py) else none
def keyOf : D → Option Key
  | .int i => some (.inl i)
  | .str s => some (.inr s)
  | _ => none
def keysOf : List D → Option (List Key)
  | [] => some []
  | d :: ds => match keyOf d, keysOf ds with
    | some k, some ks => some (k :: ks)
    | _, _ => none
def look2 {κ α : Type} [DecidableEq κ] (k : κ) : List κ → List α → Option α
  | q :: ks, x :: xs => if q = k then some x else look2 k ks xs
  | _, _ => none
def inD : D → D → Option Bool
  | .str a, .str z => match a.cps.toList with
    | [c] => some (decide (c ∈ z.cps.toList))
    | _ => none
  | x, .lst ds => if x.plain 59 && D.plains 59 ds then some (ds.any fun y => PyData.eqv y.py x.py) else none
  | x, .tup ds => if x.plain 59 && D.plains 59 ds then some (ds.any fun y => PyData.eqv y.py x.py) else none
  | _, _ => none
def cmpD : Cop → D → D → Option Bool
  | .lt, .int i, .int j => some (decide (i < j))
  | .le, .int i, .int j => some (decide (i ≤ j))
  | .gt, .int i, .int j => some (decide (j < i))
  | .ge, .int i, .int j => some (decide (j ≤ i))
  | .eq, a, b => eqD a b
  | .ne, a, b => (eqD a b).map (! ·)
  | .inn, a, b => inD a b
  | .nin, a, b => (inD a b).map (! ·)
  | .isn, a, .non => some (match a with | .non => true | _ => false)
  | .isnt, a, .non => some (match a with | .non => false | _ => true)
  | .isn, .bl a, .bl b => some (a == b)
  | .isn, .non, .bl _ => some false
  | .isnt, .bl a, .bl b => some (!(a == b))
  | .isnt, .non, .bl _ => some true
  | _, _, _ => none
abbrev ixI := ixN
abbrev at_ {α : Type} (xs : List α) (i : Int) : Option α := atI xs i
def idxD : D → D → Option D
  | .scr ns, .int j => (at_ ns j).map .int
  | .lst ds, .int j => at_ ds j
  | .tup ds, .int j => at_ ds j
  | .str z, .int j => if z.length ≤ sizeLine then (match at_ z.cps.toList j with | some c => some (.str ⟨#[c]⟩) | none => none) else none
  | .dK ks vs, k => match keyOf k with
    | some k => look2 k ks vs
    | none => none
  | .dT ks vs, .tup xs => match keysOf xs with
    | some k => look2 k ks vs
    | none => none
  | _, _ => none
abbrev sIxI := HT.sIx
def cut {α : Type} (xs : List α) (lo hi : Option Int) : List α := (xs.drop (HT.sIx xs.length 0 lo)).take (HT.sIx xs.length xs.length hi - HT.sIx xs.length 0 lo)
def sliD : D → Option Int → Option Int → Option T
  | .scr ns, lo, hi => some (.ow (.lst ((cut ns lo hi).map .int)))
  | .lst ds, lo, hi => some (.ow (.lst (cut ds lo hi)))
  | .tup ds, lo, hi => some (.fr (.tup (cut ds lo hi)))
  | .str z, lo, hi => if z.length ≤ sizeLine then some (.fr (.str (cutS z lo hi))) else none
  | _, _, _ => none
def partD : D → Option (Option Int)
  | .int i => some (some i)
  | _ => none
def fldD (f : Nat → Option Nat) : D → Option D
  | .obj c ds => match f c with
    | some k => ds[k]?
    | none => none
  | _ => none
def isD : Ty → D → Option Bool
  | .cls _ sub, .obj c _ => some (sub.contains c)
  | .cls _ _, _ => none
  | _, .obj _ _ => none
  | .int, .int _ => some true | .int, .bl _ => some true
  | .str, .str _ => some true | .bool, .bl _ => some true
  | .list, .lst _ => some true | .tuple, .tup _ => some true | .list, .scr _ => some true
  | .dict, .dK _ _ => some true | .dict, .dT _ _ => some true
  | _, _ => some false
def intsOf : List D → Option (List Int)
  | [] => some []
  | .int i :: ds => (intsOf ds).map (i :: ·)
  | _ => none
def blsOf : List D → Option (List Bool)
  | [] => some []
  | .bl i :: ds => (blsOf ds).map (i :: ·)
  | _ => none
def maxI : Int → List Int → Int
  | m, [] => m
  | m, x :: xs => maxI (if x > m then x else m) xs
def minI : Int → List Int → Int
  | m, [] => m
  | m, x :: xs => minI (if x < m then x else m) xs
def biD : BI → List D → Option T
  | .len, [.scr ns] => some (.fr (.int ns.length))
  | .len, [.lst ds] => some (.fr (.int ds.length))
  | .len, [.tup ds] => some (.fr (.int ds.length))
  | .len, [.str z] => if z.length ≤ sizeLine then some (.fr (.int z.length)) else none
  | .len, [.dK _ vs] => some (.fr (.int vs.length))
  | .len, [.dT _ vs] => some (.fr (.int vs.length))
  | .list, [.lst ds] => some (.ow (.lst ds))
  | .list, [.tup ds] => some (.ow (.lst ds))
  | .tuple, [.lst ds] => some (.fr (.tup ds))
  | .tuple, [.tup ds] => some (.fr (.tup ds))
  | .int, [.int i] => some (.fr (.int i))
  | .int, [.bl b] => some (.fr (.int (if b then 1 else 0)))
  | .sum, [.lst ds] => (intsOf ds).map fun ns => .fr (.int ns.sum)
  | .all, [.lst ds] => (blsOf ds).map fun bs => .fr (.bl (bs.all id))
  | .any, [.lst ds] => (blsOf ds).map fun bs => .fr (.bl (bs.any id))
  | .max, [.int i, .int j] => some (.fr (.int (if j > i then j else i)))
  | .min, [.int i, .int j] => some (.fr (.int (if j < i then j else i)))
  | _, _ => none
def mtD : MT → D → List D → Option T
  | .upper, .str a, [] => if a.length ≤ 5592405 then some (.fr (.str (Txt.upper a))) else none
  | _, _, _ => none
/-- truth -/
def truD : D → Option Bool
  | .non => some false | .bl b => some b | .int i => some (i != 0)
  | .lst ds => some (!ds.isEmpty)
  | _ => none

mutual
def Tg.slots : Tg → List Nat
  | .name i => [i]
  | .tup ts => Tg.slotss ts
def Tg.slotss : List Tg → List Nat
  | [] => [] | t :: ts => t.slots ++ Tg.slotss ts
end
mutual
/-- a value that stands still is bound to a target -/
def Tg.bind : Tg → D → Env → Option Env
  | .name i, d, r => some (r.set i (some (.fr d)))
  | .tup ts, .tup ds, r => Tg.binds ts ds r
  | .tup _, _, _ => none
def Tg.binds : List Tg → List D → Env → Option Env
  | [], [], r => some r
  | t :: ts, d :: ds, r => match t.bind d r with
    | some r => Tg.binds ts ds r
    | none => none
  | _, _, _ => none
end
def wipeE : List Nat → Env → Env
  | [], r => r
  | i :: is, r => (wipeE is r).set i none
/-- the slots' own again -/
def backE (r0 : Env) : List Nat → Env → Env
  | [], r => r
  | i :: is, r => match r0[i]? with
    | some o => (backE r0 is r).set i o
    | none => backE r0 is r
def stillE (r : Env) : List Nat → Bool
  | [] => true
  | i :: is => (match r[i]? with
    | some (some (.fr _)) => true
    | some none => true
    | _ => false) && stillE r is
def hideE : Option (Nat × T) → Env → Env
  | some (i, _), r => r.set i none
  | none, r => r
def showE : Option (Nat × T) → Env → Env
  | some (i, t), r => r.set i (some t)
  | none, r => r
def seqD : D → Option (List D)
  | .scr ns => some (ns.map .int)
  | .lst ds => some ds
  | .tup ds => some ds
  | .str z => some (z.cps.toList.map fun c => .str ⟨#[c]⟩)
  | _ => none
def freeE : Option (Nat × T) → List Nat → Bool
  | some (i, _), as => !as.contains i
  | none, _ => true
def rngD : List D → Option (List D)
  | [.int n] => if -4611686018427387904 ≤ n ∧ n < 4611686018427387904 then some ((List.range n.toNat).map fun (i : Nat) => .int i) else none
  | [.int a, .int b] => if -4611686018427387904 ≤ a ∧ a < 4611686018427387904 ∧ -4611686018427387904 ≤ b ∧ b < 4611686018427387904 then some ((List.range (b - a).toNat).map fun (i : Nat) => .int (a + i)) else none
  | _ => none
def enumD : Nat → List D → List D
  | _, [] => []
  | k, d :: ds => .tup [.int k, d] :: enumD (k + 1) ds
def zipD : List D → List D → List D
  | a :: as, b :: bs => .tup [a, b] :: zipD as bs
  | _, _ => []
def itemsD : List Key → List D → List D
  | k :: ks, d :: ds => .tup [(match k with | .inl i => .int i | .inr s => .str s), d] :: itemsD ks ds
  | _, _ => []
/-- a comprehension's turns -/
def compL (cf : Env → Option (Bool × Env)) (ef : Env → R) (tg : Tg) : List D → Env → List D → RL
  | [], r, acc => .ok acc r
  | d :: ds, r, acc => match tg.bind d r with
    | none => .stuck
    | some r => match cf r with
      | none => .stuck
      | some (false, r) => compL cf ef tg ds (wipeE tg.slots r) acc
      | some (true, r) => match ef r with
        | .stuck => .stuck
        | .ok x r => if acc.length < sizeLine then compL cf ef tg ds (wipeE tg.slots (useE false x r)) (acc ++ [x.toD]) else .stuck
def R.tru (r : R) : Option (Bool × Env) := match r with
  | .ok x e => match truD x.toD with
    | some b => some (b, lookE true x e)
    | none => none
  | .stuck => none
/-- what was changed is laid back -/
def putBack : Ar → List Bool → Env → Env → Env
  | .ci _ as, _ :: io, _ :: ts, r => putBack as io ts r
  | .cx i as, _ :: io, t :: ts, r => putBack as io ts (r.set i t)
  | _, _, _, r => r

mutual
def ev : E → Env → R
  | .var i, r => match r[i]? with
    | some (some (.fr d)) => F d r
    | some (some t) => .ok (.b i t) r
    | _ => .stuck
  | .cst d, r => F d r
  | .neg a, r => (ev a r).use true fun d r => match d with
    | .int i => F (.int (-i)) r
    | _ => .stuck
  | .bin o a b, r => (ev a r).use b.pu fun x r => (ev b r).use true fun y r => ofT (binD o x y) r
  | .cmp o a b, r => (ev a r).look b.pu fun x r => (ev b r).look true fun y r => ofD ((cmpD o x y).map .bl) r
  | .chain o u a b c, r => (ev a r).look b.pu fun x r => (ev b r).look c.pu fun y r => match cmpD o x y with
    | some true => (ev c r).look true fun z r => ofD ((cmpD u y z).map .bl) r
    | some false => F (.bl false) r
    | none => .stuck
  | .and a b, r => (ev a r).look true fun x r => match x with
    | .bl true => ev b r
    | .bl false => F (.bl false) r
    | _ => .stuck
  | .or a b, r => (ev a r).look true fun x r => match x with
    | .bl false => ev b r
    | .bl true => F (.bl true) r
    | _ => .stuck
  | .not a, r => match (ev a r).tru with
    | some (b, r) => F (.bl (!b)) r
    | none => .stuck
  | .ite c a b, r => match (ev c r).tru with
    | some (true, r) => ev a r
    | some (false, r) => ev b r
    | none => .stuck
  | .tup es, r => match evs es r with
    | .ok ds r => if ds.length ≤ sizeLine then F (.tup ds) r else .stuck
    | .stuck => .stuck
  | .lst es, r => match evs es r with
    | .ok ds r => if ds.length ≤ sizeLine then .ok (.v (.ow (.lst ds))) r else .stuck
    | .stuck => .stuck
  | .dct _ _, _ => .stuck
  | .dnew t, r => .ok (.v (.ow (if t then .dT [] [] else .dK [] []))) r
  | .idx a b, r => (ev a r).use b.pu fun x r => (ev b r).use true fun k r => ofD (idxD x k) r
  | .sli a lo hi, r => (ev a r).use (lo.pu && hi.pu) fun x r => match evo lo r with
    | some (l, r) => match evo hi r with
      | some (h, r) => ofT (sliD x l h) r
      | none => .stuck
    | none => .stuck
  | .fld a f, r => (ev a r).use true fun x r => ofD (fldD f x) r
  | .isi a t, r => (ev a r).look true fun d r => ofD ((isD t d).map .bl) r
  | .bi f es, r => match evu es r with
    | .ok ds r => ofT (biD f ds) r
    | .stuck => .stuck
  | .mt m a es, r => (ev a r).use es.pu fun x r => match evu es r with
    | .ok ds r => ofT (mtD m x ds) r
    | .stuck => .stuck
  | .call f as, r => match eva as r with
    | .ok ts r => match f.run ts with
      | some (t, rp) => .ok (.v t) (putBack as f.io rp r)
      | none => .stuck
    | .stuck => .stuck
  | .comp e tg it cd, r => match evi it r with
    | .ok ds hid r0 => if stillE (hideE hid r0) tg.slots then
        match compL (fun r => evc cd r) (fun r => ev e r) tg ds (wipeE tg.slots (hideE hid r0)) [] with
        | .ok ds r => .ok (.v (.ow (.lst ds))) (showE hid (backE (hideE hid r0) tg.slots r))
        | .stuck => .stuck
      else .stuck
    | .stuck => .stuck
/-- displays, arguments: each stands still -/
def evs : Es → Env → RL
  | .nil, r => .ok [] r
  | .cons e es, r => match ev e r with
    | .ok x r => match evs es (useE false x r) with
      | .ok ds r => .ok (x.toD :: ds) r
      | .stuck => .stuck
    | .stuck => .stuck
/-- arguments of what is built in -/
def evu : Es → Env → RL
  | .nil, r => .ok [] r
  | .cons e es, r => match ev e r with
    | .ok x r => match evu es (useE es.pu x r) with
      | .ok ds r => .ok (x.toD :: ds) r
      | .stuck => .stuck
    | .stuck => .stuck
def evo : Oe → Env → Option (Option Int × Env)
  | .no, r => some (none, r)
  | .so e, r => match ev e r with
    | .ok x r => match x.toD with
      | .int i => some (some i, lookE true x r)
      | _ => none
    | .stuck => none
def evc : Oe → Env → Option (Bool × Env)
  | .no, r => some (true, r)
  | .so e, r => (ev e r).tru
def evi : It → Env → RI
  | .lst e, r => match ev e r with
    | .ok (.v t) r => match seqD t.toD with
      | some ds => .ok ds none r
      | none => .stuck
    | .ok (.b i (.ow (.lst ds))) r => match r[i]? with
      | some (some (.ow (.lst _))) => .ok ds (some (i, .ow (.lst ds))) r
      | _ => .stuck
    | _ => .stuck
  | .rng es, r => match evu es r with
    | .ok ds r => match rngD ds with
      | some ds => .ok ds none r
      | none => .stuck
    | .stuck => .stuck
  | .enu e, r => match ev e r with
    | .ok x r => match x.toD with
      | .lst ds => .ok (enumD 0 ds) none (useE false x r)
      | _ => .stuck
    | .stuck => .stuck
  | .zip a b, r => match ev a r with
    | .ok x r => match ev b (useE false x r) with
      | .ok y r => match x.toD, y.toD with
        | .lst ds, .lst es => .ok (zipD ds es) none (useE false y r)
        | _, _ => .stuck
      | .stuck => .stuck
    | .stuck => .stuck
  | .itm _, _ => .stuck
  | .val _, _ => .stuck
def eva : Ar → Env → RA
  | .nil, r => .ok [] r
  | .ci e as, r => match ev e r with
    | .ok x r => match eva as (useE false x r) with
      | .ok ts r => .ok (.fr x.toD :: ts) r
      | .stuck => .stuck
    | .stuck => .stuck
  | .cx i as, r => match r[i]? with
    | some (some t) => match eva as (r.set i none) with
      | .ok ts r => .ok (t :: ts) r
      | .stuck => .stuck
    | _ => .stuck
end

/-! ### statements -/
inductive S where
  | expr (e : E) | asg (tg : Tg) (e : E) | aug (i : Nat) (o : Bop) (e : E)
  | ife (c : E) (a b : S) | for (tg : Tg) (it : It) (b : S) | whl (n : Nat) (c : E) (b : S)
  | ret (e : E) | retv (i : Nat) | retN | pass | brk | cont | seq (a b : S)
  | app (i : Nat) (e : E) | seti (i : Nat) (k e : E)
/-- the slots that a statement may store to -/
def S.asgs : S → List Nat
  | .asg tg _ => tg.slots | .aug i _ _ => [i]
  | .ife _ a b => a.asgs ++ b.asgs | .for tg _ b => tg.slots ++ b.asgs | .whl _ _ b => b.asgs | .seq a b => a.asgs ++ b.asgs
  | _ => []
def O.seq (o : O) (k : Env → O) : O := match o with
  | .nx r => k r
  | o => o
def forL (bf : Env → O) (tg : Tg) : List D → Env → O
  | [], r => .nx r
  | d :: ds, r => match tg.bind d r with
    | none => .stuck
    | some r => match bf r with
      | .nx r => forL bf tg ds r
      | .ct r => forL bf tg ds r
      | .bk r => .nx r
      | .rt t r => .rt t r
      | .stuck => .stuck
def whlL (cf : Env → Option (Bool × Env)) (bf : Env → O) : Nat → Env → O
  | 0, _ => .stuck
  | n + 1, r => match cf r with
    | none => .stuck
    | some (false, r) => .nx r
    | some (true, r) => match bf r with
      | .nx r => whlL cf bf n r
      | .ct r => whlL cf bf n r
      | .bk r => .nx r
      | .rt t r => .rt t r
      | .stuck => .stuck
/-- assignment: a name takes what is its own, else it stands still -/
def asgE (tg : Tg) (x : Val) (r : Env) : Option Env := match tg, x with
  | .name i, .v t => match r[i]? with
    | some _ => some (r.set i (some t))
    | none => none
  | tg, x => tg.bind x.toD (useE false x r)
def setD : D → D → D → Option D
  | .lst ds, .int j, d => match ixI ds.length j with
    | some k => some (.lst (ds.set k d))
    | none => none
  | _, _, _ => none
def evS : S → Env → O
  | .expr e, r => match ev e r with
    | .ok _ r => .nx r
    | .stuck => .stuck
  | .asg tg e, r => match ev e r with
    | .ok x r => match asgE tg x r with
      | some r => .nx r
      | none => .stuck
    | .stuck => .stuck
  | .aug i o e, r => match r[i]? with
    | some (some (.fr (.int a))) => match ev e r with
      | .ok x r => match o, x.toD with
        | .add, .int b => .nx ((useE false x r).set i (some (.fr (.int (a + b)))))
        | .sub, .int b => .nx ((useE false x r).set i (some (.fr (.int (a - b)))))
        | _, _ => .stuck
      | .stuck => .stuck
    | _ => .stuck
  | .ife c a b, r => match (ev c r).tru with
    | some (true, r) => evS a r
    | some (false, r) => evS b r
    | none => .stuck
  | .for tg it b, r => match evi it r with
    | .ok ds hid r => match forL (fun r => evS b r) tg ds (hideE hid r) with
      | .nx r => if freeE hid (tg.slots ++ b.asgs) then .nx (showE hid r) else .stuck
      | o => o
    | .stuck => .stuck
  | .whl n c b, r => whlL (fun r => (ev c r).tru) (fun r => evS b r) n r
  | .ret e, r => match ev e r with
    | .ok (.v t) r => .rt t r
    | .ok (.b i t) r => .rt (.fr t.toD) (frz i r)
    | .stuck => .stuck
  | .retv i, r => match r[i]? with
    | some (some t) => .rt t (r.set i none)
    | _ => .stuck
  | .retN, r => .rt (.fr .non) r
  | .pass, r => .nx r
  | .brk, r => .bk r
  | .cont, r => .ct r
  | .seq a b, r => (evS a r).seq fun r => evS b r
  | .app i e, r => match r[i]? with
    | some (some (.ow (.lst _))) => match ev e r with
      | .ok x r => match (useE false x r)[i]? with
        | some (some (.ow (.lst ds))) => if ds.length < sizeLine then .nx ((useE false x r).set i (some (.ow (.lst (ds ++ [x.toD]))))) else .stuck
        | _ => .stuck
      | .stuck => .stuck
    | _ => .stuck
  | .seti i k e, r => match r[i]? with
    | some (some _) => match ev e r with
      | .ok x r => match ev k (useE false x r) with
        | .ok y r => match (useE false y r)[i]? with
          | some (some (.ow d)) => match setD d y.toD x.toD with
            | some d => .nx ((useE false y r).set i (some (.ow d)))
            | none => .stuck
          | _ => .stuck
        | .stuck => .stuck
      | .stuck => .stuck
    | _ => .stuck
/-- a def's own: n slots in all, the parameters' first -/
def mkFn (n : Nat) (io : List Bool) (b : S) : Fn where
  io := io
  run := fun ts => if ts.length = io.length then
    match evS b (ts.map some ++ List.replicate (n - io.length) none) with
    | .nx r => some (.fr .non, r.take io.length)
    | .rt t r => some (t, r.take io.length)
    | _ => none
    else none
end FJ

/-! From the text to the small language. -/
namespace FJ
open PySem L2

/-- what a module's name stands for -/
inductive GI where
  | fn (f : Fn) | con (d : D) | blt | cls (k : Nat)
/-- where a text stands: its names by slot, its scope, which names it may store to, the module's names, the classes under each -/
structure Cc where
  N : List Str
  sc : Scope
  cellOk : Str → Bool
  g : Str → Option GI
  np : Nat
  sub : Nat → List Nat
  tds : List Str

def slotOf (x : Str) : List Str → Option Nat
  | [] => none
  | y :: r => if y = x then some 0 else (slotOf x r).map (· + 1)
def visB (sc : Scope) (x : Str) : Bool := match sc.names.lookup x with
  | some .local => true | some .cell => true | some .free => true | _ => false
def gloB (sc : Scope) (x : Str) : Bool := match sc.names.lookup x with
  | some .globalImplicit => true | _ => false
def locB (c : Cc) (x : Str) : Bool := match c.sc.names.lookup x with
  | some .local => true | some .cell => c.cellOk x | _ => false
def dbg (x : Str) : Bool := x == ("__debug__" : Str)
def gOf (c : Cc) (x : Str) : Option GI := if gloB c.sc x && !dbg x && decide (x ≠ "__name__") then c.g x else none
def bltB (c : Cc) (x : Str) : Bool := match gOf c x with | some .blt => true | _ => false
def binOp : Operator → Option Bop
  | .Add => some .add | .Sub => some .sub | .Mult => some .mul | .FloorDiv => some .fdiv | .Mod => some .mod | .Pow => some .pow
  | _ => none
def cmpOp : CmpOp → Cop
  | .Eq => .eq | .NotEq => .ne | .Lt => .lt | .LtE => .le | .Gt => .gt | .GtE => .ge | .Is => .isn | .IsNot => .isnt | .In => .inn | .NotIn => .nin
def notStar : Expr → Bool
  | .Starred .. => false | _ => true
def noStars (es : List Expr) : Bool := es.all notStar
def isSlice : Expr → Bool
  | .Slice .. => true | _ => false
def isComp : Expr → Bool
  | .ListComp .. => true | .SetComp .. => true | .DictComp .. => true | _ => false
def isSet : Expr → Bool
  | .Set .. => true | _ => false
def isTup : Expr → Bool
  | .Tuple .. => true | _ => false
def isTest : Expr → Bool
  | .UnaryOp .Not _ _ => true | .BoolOp .. => true | .IfExp .. => true | .Compare .. => true | _ => false
def baseOk : Expr → Bool
  | .Call (.Name id _) [] [] _ => decide (id ≠ "super") | _ => true
def biOf (x : Str) : Option BI :=
  if x = "len" then some .len else if x = "all" then some .all else if x = "any" then some .any else if x = "sum" then some .sum
  else if x = "max" then some .max else if x = "min" then some .min else none
def btOf (x : Str) : Option BI :=
  if x = "list" then some .list else if x = "tuple" then some .tuple else if x = "int" then some .int else none
def tyOf (c : Cc) : Expr → Option Ty
  | .Name x _ => match gOf c x with
    | some .blt => if x = "int" then some .int else if x = "str" then some .str else if x = "bool" then some .bool else if x = "list" then some .list
        else if x = "tuple" then some .tuple else if x = "dict" then some .dict else none
    | _ => none
  | _ => none
def isPair : It → Bool
  | .enu _ => true | .zip _ _ => true | _ => false
/-- a new object is at hand: a name may take it as its own -/
def scopeOfComp : Expr → Option Scope
  | .ListComp _ _ s _ => some s | _ => none
def inner (c : Cc) (scope : Scope) : Cc := { c with sc := relS scope c.sc, cellOk := fun x => decide (scope.names.lookup x = some .cell) }
def namesOf : Tg → List Str → List (Str × Nat)
  | t, N => t.slots.filterMap fun i => (N[i]?).map fun x => (x, i)

mutual
def ce : Nat → Cc → Expr → Option E
  | 0, _, _ => none
  | n + 1, c, e => match e with
    | .Name x _ => if dbg x || decide (x = "__classdict__") then none else if visB c.sc x then (slotOf x c.N).map .var else match gOf c x with
      | some (.con d) => some (.cst d)
      | _ => none
    | .Constant (.int i) _ _ => some (.cst (.int i))
    | .Constant (.bool b) _ _ => some (.cst (.bl b))
    | .Constant (.str s) _ _ => some (.cst (.str s))
    | .Constant .none _ _ => some (.cst .non)
    | .UnaryOp .USub a _ => (ce n c a).map .neg
    | .UnaryOp .Not a _ => (ce n c a).map .not
    | .BinOp a o b _ => match binOp o, ce n c a, ce n c b with
      | some o, some a, some b => some (.bin o a b)
      | _, _, _ => none
    | .Compare a [o] [b] _ => if behindInMarks o b then none else match ce n c a, ce n c b with
      | some a, some b => some (.cmp (cmpOp o) a b)
      | _, _ => none
    | .Compare a [o, u] [b, d] _ => if isSet b || isSet d then none else match ce n c a, ce n c b, ce n c d with
      | some a, some b, some d => some (.chain (cmpOp o) (cmpOp u) a b d)
      | _, _, _ => none
    | .BoolOp .And (a :: r) _ => cand n c a r
    | .BoolOp .Or (a :: r) _ => cor n c a r
    | .IfExp t a b _ => match ce n c t, ce n c a, ce n c b with
      | some t, some a, some b => some (.ite t a b)
      | _, _, _ => none
    | .Tuple es _ _ => (ces n c es).map .tup
    | .List es _ => (ces n c es).map .lst
    | .Dict [] [] _ => some (.dnew false)
    | .Subscript a (.Slice lo hi none _) _ => match ce n c a, co n c lo, co n c hi with
      | some a, some lo, some hi => some (.sli a lo hi)
      | _, _, _ => none
    | .Subscript a b _ => if isSlice b then none else match ce n c a, ce n c b with
      | some a, some b => some (.idx a b)
      | _, _ => none
    | .Call (.Name x _) es [] _ => if !noStars es then none else match gOf c x with
      | some (.fn f) => if f.io.length = es.length then (car n c f.io es).map (.call f) else none
      | some .blt => if decide (x = "isinstance") then (match es with
          | [a, t] => match ce n c a, tyOf c t with
            | some a, some t => some (.isi a t)
            | _, _ => none
          | _ => none)
        else match biOf x, es with
          | some b, _ :: _ => (ces n c es).map (.bi b)
          | _, _ => match btOf x, es with
            | some b, _ :: _ => (ces n c es).map (.bi b)
            | _, _ => none
      | _ => none
    | .Call (.Attribute a m ap) [] [] cp => if decide (m = "upper") && (baseOk a && (ap.endLine == cp.line)) then (ce n c a).map fun a => .mt .upper a .nil else none
    | .ListComp elt [⟨tg0, iter, ifs, as⟩] scope _ => if isSet iter || decide (as ≠ 0) then none else match cit n c iter, ctg n (inner c scope) tg0 with
      | some it, some tg => if isPair it && !isTup tg0 then none else if blkC c.N c.sc scope (namesOf tg c.N) && decide ((namesOf tg c.N).map (·.2) = tg.slots) then (match ce n (inner c scope) elt, ifs with
          | some e, [] => some (.comp e tg it .no)
          | some e, [i] => (ce n (inner c scope) i).map fun i => .comp e tg it (.so i)
          | _, _ => none) else none
      | _, _ => none
    | _ => none
def cand : Nat → Cc → Expr → List Expr → Option E
  | 0, _, _, _ => none
  | n + 1, c, a, [] => ce n c a
  | n + 1, c, a, b :: r => match ce n c a, cand n c b r with
    | some a, some b => some (.and a b)
    | _, _ => none
def cor : Nat → Cc → Expr → List Expr → Option E
  | 0, _, _, _ => none
  | n + 1, c, a, [] => ce n c a
  | n + 1, c, a, b :: r => match ce n c a, cor n c b r with
    | some a, some b => some (.or a b)
    | _, _ => none
def ces : Nat → Cc → List Expr → Option Es
  | 0, _, _ => none
  | _ + 1, _, [] => some .nil
  | n + 1, c, e :: es => if notStar e then (match ce n c e, ces n c es with
    | some e, some es => some (.cons e es)
    | _, _ => none) else none
def co : Nat → Cc → Option Expr → Option Oe
  | 0, _, _ => none
  | _ + 1, _, none => some .no
  | n + 1, c, some e => (ce n c e).map .so
def car : Nat → Cc → List Bool → List Expr → Option Ar
  | 0, _, _, _ => none
  | _ + 1, _, [], [] => some .nil
  | n + 1, c, false :: io, e :: es => match ce n c e, car n c io es with
    | some e, some as => some (.ci e as)
    | _, _ => none
  | n + 1, c, true :: io, .Name x _ :: es => if dbg x || decide (x = "__classdict__") || !visB c.sc x then none else match slotOf x c.N, car n c io es with
    | some i, some as => some (.cx i as)
    | _, _ => none
  | _ + 1, _, _, _ => none
def cit : Nat → Cc → Expr → Option It
  | 0, _, _ => none
  | n + 1, c, e => match e with
    | .Call (.Name x _) es [] _ => if bltB c x && noStars es then (
        if decide (x = "range") then (match es with
          | [_] => (ces n c es).map .rng
          | [_, _] => (ces n c es).map .rng
          | _ => none)
        else if decide (x = "enumerate") then (match es with
          | [a] => (ce n c a).map .enu
          | _ => none)
        else if decide (x = "zip") then (match es with
          | [a, b] => match ce n c a, ce n c b with
            | some a, some b => some (.zip a b)
            | _, _ => none
          | _ => none)
        else (ce n c e).map .lst)
      else (ce n c e).map .lst
    | _ => (ce n c e).map .lst
def ctg : Nat → Cc → Expr → Option Tg
  | 0, _, _ => none
  | n + 1, c, e => match e with
    | .Name x _ => if locB c x then (slotOf x c.N).map .name else none
    | .Tuple es _ _ => (ctgs n c es).map .tup
    | _ => none
def ctgs : Nat → Cc → List Expr → Option (List Tg)
  | 0, _, _ => none
  | _ + 1, _, [] => some []
  | n + 1, c, e :: es => if notStar e then (match ctg n c e, ctgs n c es with
    | some e, some es => some (e :: es)
    | _, _ => none) else none
end

/-- an expression of its own -/
def capp (c : Cc) : Expr → Option S
  | .Call (.Attribute (.Name x _) m ap) [e] [] cp => if decide (m = "append") && (visB c.sc x && (!dbg x && (decide (x ≠ "__classdict__") && (notStar e && (ap.endLine == cp.line))))) then (match slotOf x c.N, ce 1000 c e with
      | some i, some e => some (.app i e)
      | _, _ => none) else none
  | _ => none
def cxp (c : Cc) (e : Expr) : Option S := match capp c e with
  | some s => some s
  | none => if isComp e then none else (ce 1000 c e).map .expr
/-- assignments -/
def cnew (c : Cc) (x : Str) : Expr → Option E
  | .Dict [] [] _ => some (.dnew (c.tds.contains x))
  | e => ce 1000 c e
def cas (c : Cc) : Expr → Expr → Option S
  | .Name x _, e => if locB c x then (match slotOf x c.N, cnew c x e with
      | some i, some e => some (.asg (.name i) e)
      | _, _ => none) else none
  | .Tuple ts k p, e => if isTup e || isComp e then none else (match ctg 1000 c (.Tuple ts k p), ce 1000 c e with
      | some tg, some e => some (.asg tg e)
      | _, _ => none)
  | .Subscript (.Name x _) k _, e => if visB c.sc x && (!dbg x && (decide (x ≠ "__classdict__") && (!isSlice k && !isComp e))) then (match slotOf x c.N, ce 1000 c k, ce 1000 c e with
      | some i, some k, some e => some (.seti i k e)
      | _, _, _ => none) else none
  | _, _ => none
def caug (c : Cc) : Expr → Operator → Expr → Option S
  | .Name x _, o, e => if locB c x then (match slotOf x c.N, ce 1000 c e with
      | some i, some e => (match o with
        | .Add => some (.aug i .add e)
        | .Sub => some (.aug i .sub e)
        | _ => none)
      | _, _ => none) else none
  | _, _, _ => none
def cret (c : Cc) (e : Expr) : Option S := match e with
  | .Name x _ => if dbg x || decide (x = "__classdict__") then none else if visB c.sc x then (slotOf x c.N).map fun i => if c.np ≤ i then .retv i else .ret (.var i) else (ce 1000 c e).map .ret
  | e => (ce 1000 c e).map .ret
mutual
def cs : Nat → Cc → Stmt → Option S
  | 0, _, _ => none
  | n + 1, c, s => match s with
    | .Expr e _ => cxp c e
    | .Assign [tg] e _ => cas c tg e
    | .AugAssign tg o e _ => caug c tg o e
    | .If t a b _ => match ce 1000 c t, css n c a, css n c b with
      | some t, some a, some b => some (.ife t a b)
      | _, _, _ => none
    | .For tg0 iter b [] _ => if isSet iter then none else match ctg 1000 c tg0, cit 1000 c iter, css n c b with
      | some tg, some it, some b => if isPair it && !isTup tg0 then none else some (.for tg it b)
      | _, _, _ => none
    | .While t b [] _ => match ce 1000 c t, css n c b with
      | some t, some b => some (.whl 4194304 t b)
      | _, _ => none
    | .Return (some e) _ => cret c e
    | .Return none _ => some .retN
    | .Pass _ => some .pass
    | .Break _ => some .brk
    | .Continue _ => some .cont
    | _ => none
def css : Nat → Cc → List Stmt → Option S
  | 0, _, _ => none
  | _ + 1, _, [] => some .pass
  | n + 1, c, s :: r => match r with
    | [] => cs n c s
    | _ :: _ => match cs n c s, css n c r with
      | some a, some b => some (.seq a b)
      | _, _ => none
end
end FJ

/-! States, steps, what a value may be used for. -/
namespace FJ
open PySem L2

/-- slot i owns P i; G is the part of H that stands still -/
structure Sst (C : Ct) (G H : Hp) (P : Nat → Addr → Prop) (r : Env) (σ : St) : Prop where
  len : r.length = σ.length
  gh : Same G H
  sl : ∀ (i : Nat) (t : T), r[i]? = some (some t) → ∃ v, σ[i]? = some (some v) ∧ Own C G H t v (P i)
  pe : ∀ (i : Nat) (a : Addr), P i a → ∃ t, r[i]? = some (some t)
  dj : ∀ (i j : Nat) (a : Addr), P i a → P j a → i = j
/-- from one state to a later one -/
structure Stp (G H : Hp) (P : Nat → Addr → Prop) (G' H' : Hp) (P' : Nat → Addr → Prop) : Prop where
  gg : Same G G'
  kp : ∀ (a : Addr) (o : HO), H a = some o → (∀ i, ¬ P i a) → H' a = some o
  ld : ∀ (a : Addr), H' a = none → H a = none
  pp : ∀ (i : Nat) (a : Addr), P' i a → (∃ j, P j a) ∨ H a = none
  gn : ∀ (a : Addr), G a = none → G' a ≠ none → (∃ j, P j a) ∨ H a = none
theorem Stp.refl (G H : Hp) (P : Nat → Addr → Prop) : Stp G H P G H P := ⟨Same.refl G, fun _ _ h _ => h, fun _ h => h, fun i _ h => .inl ⟨i, h⟩, fun _ h n => absurd h n⟩
theorem Stp.trans {G H G1 H1 G2 H2 : Hp} {P P1 P2 : Nat → Addr → Prop} (a : Stp G H P G1 H1 P1) (b : Stp G1 H1 P1 G2 H2 P2) : Stp G H P G2 H2 P2 where
  gg := a.gg.trans b.gg
  kp := fun x o h n => b.kp x o (a.kp x o h n) fun i hi => (a.pp i x hi).elim (fun ⟨j, hj⟩ => n j hj) fun e => by rw [h] at e; cases e
  ld := fun x h => a.ld x (b.ld x h)
  pp := fun i x h => (b.pp i x h).elim (fun ⟨j, hj⟩ => a.pp j x hj) fun e => .inr (a.ld x e)
  gn := fun x h n => by
    by_cases h1 : G1 x = none
    · exact (b.gn x h1 n).elim (fun ⟨j, hj⟩ => a.pp j x hj) fun e => .inr (a.ld x e)
    · exact a.gn x h h1
/-- a value's own is laid to what stands still -/
noncomputable def gadd (G H : Hp) (A : Addr → Prop) : Hp := fun a => by
  classical exact if A a then H a else G a
section
variable {C : Ct} {G H G' H' : Hp} {P P' : Nat → Addr → Prop} {r r' : Env} {σ σ' : St} {A B : Addr → Prop} {x : Val} {v : V} {t : T} {d : D}
theorem gadd_in {a : Addr} (h : A a) : gadd G H A a = H a := by unfold gadd; rw [if_pos h]
theorem gadd_out {a : Addr} (h : ¬ A a) : gadd G H A a = G a := by unfold gadd; rw [if_neg h]
theorem Same.gadd (hn : ∀ a, A a → G a = none) : Same G (gadd G H A) := fun a o h => by
  by_cases ha : A a
  · rw [hn a ha] at h; cases h
  · rw [gadd_out ha]; exact h
theorem gadd_le (s : Same G H) : Same (FJ.gadd G H A) H := fun a o h => by
  by_cases ha : A a
  · rw [gadd_in ha] at h; exact h
  · rw [gadd_out ha] at h; exact s a o h
theorem Sst.dom (st : Sst C G H P r σ) {i : Nat} {a : Addr} (h : P i a) : G a = none ∧ H a ≠ none := by
  obtain ⟨t, e⟩ := st.pe i a h
  obtain ⟨v, _, o⟩ := st.sl i t e
  exact Own.dom o h
/-- an owned value may be read as it is -/
theorem Own.rep (s : Same G H) (o : Own C G H t v A) : Rep C H t.toD v := Own.freeze s o fun _ _ _ h => h

def Res (C : Ct) (G H : Hp) (P : Nat → Addr → Prop) : Val → V → (Addr → Prop) → Prop
  | .v t, v, A => Own C G H t v A ∧ ∀ i a, A a → ¬ P i a
  | .b i t, v, A => (∀ a, ¬ A a) ∧ ∃ B, Own C G H t v B ∧ ∀ a, B a → P i a
theorem Res.fr (h : Rep C G d v) : Res C G H P (.v (.fr d)) v (fun _ => False) := ⟨.fr h fun _ z => z, fun _ _ z => z.elim⟩
/-- laying still a temporary -/
theorem Sst.lay (st : Sst C G H P r σ) (ha : ∀ a, A a → G a = none) (hn : ∀ i a, A a → ¬ P i a) : Sst C (gadd G H A) H P r σ where
  len := st.len
  gh := gadd_le st.gh
  sl := fun i t e => by
    obtain ⟨v, h1, h2⟩ := st.sl i t e
    refine ⟨v, h1, Own.mono (Same.gadd ha) h2 (fun a h => ?_) fun _ _ _ h => h⟩
    rw [gadd_out fun z => hn i a z h]
    exact (Own.dom h2 h).1
  pe := st.pe
  dj := st.dj
theorem Stp.lay (hf : ∀ a, A a → G a = none) : ∀ (hA : ∀ a, A a → (∃ j, P j a) ∨ H a = none), Stp G H P (gadd G H A) H P := fun hA =>
  ⟨Same.gadd hf, fun _ _ h _ => h, fun _ h => h, fun i _ h => .inl ⟨i, h⟩, fun a h n => by
    by_cases ha : A a
    · exact hA a ha
    · rw [gadd_out ha] at n; exact absurd h n⟩
/-- two steps, the second by a temporary of the first one's own -/
theorem Stp.layed {G0 H0 : Hp} {P0 : Nat → Addr → Prop} (s : Stp G0 H0 P0 G H P) (hf : ∀ a, A a → G a = none) (hA : ∀ a, A a → (∃ j, P0 j a) ∨ H0 a = none) : Stp G0 H0 P0 (gadd G H A) H P :=
  ⟨s.gg.trans (Same.gadd hf), s.kp, s.ld, s.pp, fun a h n => by
    by_cases ha : A a
    · exact hA a ha
    · rw [gadd_out ha] at n; exact s.gn a h n⟩
/-- a slot's own stands still from now on -/
def Pno (P : Nat → Addr → Prop) (i : Nat) : Nat → Addr → Prop := fun j a => j ≠ i ∧ P j a
theorem getSet {α : Type} {l : List α} {i j : Nat} {x y : α} (h : (l.set i x)[j]? = some y) : (i = j ∧ y = x ∧ i < l.length) ∨ (i ≠ j ∧ l[j]? = some y) := by
  by_cases e : i = j
  · subst e
    by_cases hl : i < l.length
    · rw [List.getElem?_set_self hl] at h
      exact .inl ⟨rfl, (Option.some.inj h).symm, hl⟩
    · rw [List.getElem?_eq_none (by simpa using hl)] at h; cases h
  · rw [List.getElem?_set_ne e] at h
    exact .inr ⟨e, h⟩
theorem ltOf {α : Type} {l : List α} {i : Nat} {x : α} (h : l[i]? = some x) : i < l.length := (List.getElem?_eq_some_iff.mp h).1
theorem Sst.frz (st : Sst C G H P r σ) (i : Nat) : Sst C (gadd G H (P i)) H (Pno P i) (FJ.frz i r) σ ∧ Stp G H P (gadd G H (P i)) H (Pno P i) := by
  have hG : ∀ a, P i a → G a = none := fun a h => (st.dom h).1
  refine ⟨?_, ⟨Same.gadd hG, fun _ _ h _ => h, fun _ h => h, fun j a h => .inl ⟨j, h.2⟩, fun a h n => ?_⟩⟩
  · have base : ∀ (j : Nat) (t : T), j ≠ i → r[j]? = some (some t) → ∃ v, σ[j]? = some (some v) ∧ Own C (gadd G H (P i)) H t v (Pno P i j) := fun j t hj e => by
      obtain ⟨v, h1, h2⟩ := st.sl j t e
      refine ⟨v, h1, ?_⟩
      have eP : Pno P i j = P j := by
        funext a
        exact propext ⟨fun h => h.2, fun h => ⟨hj, h⟩⟩
      rw [eP]
      refine Own.mono (Same.gadd hG) h2 (fun a h => ?_) fun _ _ _ h => h
      rw [gadd_out fun z => hj (st.dj _ _ _ h z)]
      exact (Own.dom h2 h).1
    cases e : r[i]? with
    | none =>
      have er : FJ.frz i r = r := by unfold FJ.frz; rw [e]
      rw [er]
      refine ⟨st.len, gadd_le st.gh, fun j t hj => base j t (fun z => by subst z; rw [e] at hj; cases hj) hj, fun j a h => st.pe j a h.2, fun j k a h1 h2 => st.dj j k a h1.2 h2.2⟩
    | some o =>
      cases o with
      | none =>
        have er : FJ.frz i r = r := by unfold FJ.frz; rw [e]
        rw [er]
        refine ⟨st.len, gadd_le st.gh, fun j t hj => base j t (fun z => by subst z; rw [e] at hj; cases hj) hj, fun j a h => st.pe j a h.2, fun j k a h1 h2 => st.dj j k a h1.2 h2.2⟩
      | some t0 =>
        have er : FJ.frz i r = r.set i (some (.fr t0.toD)) := by unfold FJ.frz; rw [e]
        rw [er]
        refine ⟨by rw [List.length_set]; exact st.len, gadd_le st.gh, fun j t hj => ?_, fun j a h => ?_, fun j k a h1 h2 => st.dj j k a h1.2 h2.2⟩
        · rcases getSet hj with ⟨rfl, ht, _⟩ | ⟨hne, hj⟩
          · cases ht
            obtain ⟨v, h1, h2⟩ := st.sl i t0 e
            exact ⟨v, h1, .fr (Own.freeze (Same.gadd hG) h2 fun a o ha ho => by rw [gadd_in ha]; exact ho) fun a z => z.1 rfl⟩
          · exact base j t hne.symm hj
        · obtain ⟨t, ht⟩ := st.pe j a h.2
          exact ⟨t, by rw [List.getElem?_set_ne (Ne.symm h.1)]; exact ht⟩
  · by_cases ha : P i a
    · exact .inl ⟨i, ha⟩
    · rw [gadd_out ha] at n; exact absurd h n

/-- a value as a def may read it: it stands still, or it is one object whose parts do -/
def Us (C : Ct) (G H : Hp) (d : D) (v : V) : Prop := Rep C G d v ∨ ∃ p o, v = .ref p ∧ H p = some o ∧ Flat C G d o
theorem Us.rep (s : Same G H) (u : Us C G H d v) : Rep C H d v := by
  rcases u with u | ⟨p, o, rfl, h, f⟩
  · exact Rep.mono s u
  · exact Flat.rep (Flat.mono s f) h
theorem soft_us (hs : t.soft = true) (o : Own C G H t v A) : Us C G H t.toD v := by
  cases o with
  | fr r _ => exact .inl r
  | ow h _ f _ => exact .inr ⟨_, _, rfl, h, f⟩
  | nl _ _ _ _ _ => cases hs
  | nt _ _ _ _ _ => cases hs
  | nd _ _ _ _ _ _ => cases hs
  | no _ _ _ _ _ => cases hs
/-- it is laid still -/
theorem settle_ok {G0 H0 : Hp} {P0 : Nat → Addr → Prop} (st : Sst C G H P r σ) (s : Stp G0 H0 P0 G H P) (res : Res C G H P x v A) (hA : ∀ a, A a → (∃ j, P0 j a) ∨ H0 a = none) :
    ∃ G1 P1, Sst C G1 H P1 (useE false x r) σ ∧ Stp G0 H0 P0 G1 H P1 ∧ Rep C G1 x.toD v := by
  cases x with
  | v t =>
    obtain ⟨o, n⟩ := res
    refine ⟨gadd G H A, P, st.lay (fun a h => (Own.dom o h).1) n, s.layed (fun a h => (Own.dom o h).1) hA, Own.freeze (Same.gadd fun a h => (Own.dom o h).1) o fun a u ha hu => by rw [gadd_in ha]; exact hu⟩
  | b i t =>
    obtain ⟨_, B, o, hB⟩ := res
    obtain ⟨st1, s1⟩ := st.frz i
    exact ⟨_, _, st1, s.trans s1, Own.freeze s1.gg o fun a u ha hu => by rw [gadd_in (hB a ha)]; exact hu⟩
/-- it is used: what it is stays so -/
theorem use_ok {G0 H0 : Hp} {P0 : Nat → Addr → Prop} (p : Bool) (st : Sst C G H P r σ) (s : Stp G0 H0 P0 G H P) (res : Res C G H P x v A) (hA : ∀ a, A a → (∃ j, P0 j a) ∨ H0 a = none) :
    ∃ G1 P1, Sst C G1 H P1 (useE p x r) σ ∧ Stp G0 H0 P0 G1 H P1 ∧ ∀ G2 H2 P2, Stp G1 H P1 G2 H2 P2 → (p = true → Same H H2) → Us C G2 H2 x.toD v := by
  have fin : useE p x r = useE false x r → ∃ G1 P1, Sst C G1 H P1 (useE p x r) σ ∧ Stp G0 H0 P0 G1 H P1 ∧ ∀ G2 H2 P2, Stp G1 H P1 G2 H2 P2 → (p = true → Same H H2) → Us C G2 H2 x.toD v := fun e => by
    obtain ⟨G1, P1, h1, h2, h3⟩ := settle_ok st s res hA
    rw [e]
    exact ⟨G1, P1, h1, h2, fun G2 H2 P2 s2 _ => .inl (Rep.mono s2.gg h3)⟩
  cases x with
  | v t => exact fin rfl
  | b i t =>
    by_cases hp : p = true ∧ t.soft = true
    · obtain ⟨hp, hs⟩ := hp
      subst hp
      obtain ⟨_, B, o, hB⟩ := res
      have er : useE true (.b i t) r = r := by unfold useE; simp [hs]
      rw [er]
      refine ⟨G, P, st, s, fun G2 H2 P2 s2 hp => ?_⟩
      rcases soft_us hs o with h | ⟨q, u, h1, h2, h3⟩
      · exact .inl (Rep.mono s2.gg h)
      · exact .inr ⟨q, u, h1, hp rfl _ _ h2, Flat.mono s2.gg h3⟩
    · refine fin ?_
      unfold useE
      have : (p && t.soft) = false := by
        cases p <;> cases h : t.soft <;> simp_all
      simp [this]
theorem look_ok {G0 H0 : Hp} {P0 : Nat → Addr → Prop} (p : Bool) (st : Sst C G H P r σ) (s : Stp G0 H0 P0 G H P) (res : Res C G H P x v A) (hA : ∀ a, A a → (∃ j, P0 j a) ∨ H0 a = none) :
    ∃ G1 P1, Sst C G1 H P1 (lookE p x r) σ ∧ Stp G0 H0 P0 G1 H P1 ∧ ∀ G2 H2 P2, Stp G1 H P1 G2 H2 P2 → Same G2 H2 → (p = true → Same H H2) → Rep C H2 x.toD v := by
  have fin : lookE p x r = useE false x r → ∃ G1 P1, Sst C G1 H P1 (lookE p x r) σ ∧ Stp G0 H0 P0 G1 H P1 ∧ ∀ G2 H2 P2, Stp G1 H P1 G2 H2 P2 → Same G2 H2 → (p = true → Same H H2) → Rep C H2 x.toD v := fun e => by
    obtain ⟨G1, P1, h1, h2, h3⟩ := settle_ok st s res hA
    rw [e]
    exact ⟨G1, P1, h1, h2, fun G2 H2 P2 s2 g2 _ => Rep.mono (s2.gg.trans g2) h3⟩
  cases x with
  | v t => exact fin rfl
  | b i t =>
    cases p with
    | false => exact fin rfl
    | true =>
      obtain ⟨_, B, o, hB⟩ := res
      exact ⟨G, P, st, s, fun G2 H2 P2 s2 g2 hp => Rep.mono (hp rfl) (Own.rep st.gh o)⟩
end

/-! ### readings -/
def Post (C : Ct) (G H : Hp) (P : Nat → Addr → Prop) (r' : Env) (σ : St) (pu : Bool) (x : Val) (Q : VK) : Prop :=
  ∀ v G' H' P' A, Sst C G' H' P' r' σ → Stp G H P G' H' P' → Res C G' H' P' x v A → (∀ a, A a → (∃ j, P j a) ∨ H a = none) → (pu = true → Same H H') → Q v H'
def tE (C : Ct) (e : E) : TE := fun σ H Q => ∃ G P r x r', Sst C G H P r σ ∧ ev e r = .ok x r' ∧ Post C G H P r' σ e.pu x Q
/-- in a state that was come to by s -/
theorem tE_at {C : Ct} {e : E} {G H : Hp} {P : Nat → Addr → Prop} {r r' : Env} {x : Val} {σ : St} {Q : VK} (st : Sst C G H P r σ) (h : ev e r = .ok x r')
    (k : ∀ v G' H' P' A, Sst C G' H' P' r' σ → Stp G H P G' H' P' → Res C G' H' P' x v A → (∀ a, A a → (∃ j, P j a) ∨ H a = none) → (e.pu = true → Same H H') → Q v H') : tE C e σ H Q := ⟨G, P, r, x, r', st, h, k⟩
end FJ

/-! What operations hand on; the operators. -/
namespace FJ
open PySem L2

/-- new objects are laid -/
structure Grow (G H G' H' : Hp) : Prop where
  gg : Same G G'
  hh : Same H H'
  gh : Same G' H'
  nw : ∀ (a : Addr), G a = none → G' a ≠ none → H a = none
def Alc (C : Ct) (G H : Hp) (t : T) (Q : VK) : Prop := ∀ v G' H' A, Grow G H G' H' → Own C G' H' t v A → (∀ a, A a → H a = none) → Q v H'
section
variable {C : Ct} {G H G' H' : Hp} {P P' : Nat → Addr → Prop} {r r' : Env} {σ σ' : St} {A B : Addr → Prop} {x : Val} {v : V} {t : T} {d : D} {Q : VK}
theorem Grow.refl (s : Same G H) : Grow G H G H := ⟨Same.refl _, Same.refl _, s, fun _ h n => absurd h n⟩
theorem Same.nu {a : Addr} {o : HO} (h : H a = none) : Same H (upd H a o) := fun b u e => by rw [upd_ne (ne_of_none e h)]; exact e
theorem Same.no (s : Same G H) {a : Addr} (h : H a = Option.none) : G a = Option.none := Same.free s h
theorem Grow.nu (s : Same G H) {a : Addr} {o : HO} (h : H a = none) : Grow G H G (upd H a o) := ⟨Same.refl _, Same.nu h, s.trans (Same.nu h), fun _ h n => absurd h n⟩
theorem Grow.nuF (s : Same G H) {a : Addr} {o : HO} (h : H a = none) : Grow G H (upd G a o) (upd H a o) where
  gg := Same.nu (Same.no s h)
  hh := Same.nu h
  gh := fun b u e => by
    by_cases hb : b = a
    · subst hb; rw [upd_same] at e ⊢; exact e
    · rw [upd_ne hb] at e ⊢; exact s b u e
  nw := fun b hb n => by
    by_cases hb' : b = a
    · subst hb'; exact h
    · rw [upd_ne hb'] at n; exact absurd hb n
theorem Grow.trans {G1 H1 G2 H2 : Hp} (a : Grow G H G1 H1) (b : Grow G1 H1 G2 H2) : Grow G H G2 H2 :=
  ⟨a.gg.trans b.gg, a.hh.trans b.hh, b.gh, fun x h n => by
    by_cases h1 : G1 x = none
    · exact Same.no a.hh (b.nw x h1 n)
    · exact a.nw x h h1⟩
theorem Sst.grow (st : Sst C G H P r σ) (g : Grow G H G' H') : Sst C G' H' P r σ where
  len := st.len
  gh := g.gh
  sl := fun i t e => by
    obtain ⟨v, h1, h2⟩ := st.sl i t e
    refine ⟨v, h1, Own.mono g.gg h2 (fun a h => ?_) fun a o _ h => g.hh a o h⟩
    by_cases hn : G' a = none
    · exact hn
    · exact absurd (g.nw a (Own.dom h2 h).1 hn) (Own.dom h2 h).2
  pe := st.pe
  dj := st.dj
theorem Stp.grow (g : Grow G H G' H') : Stp G H P G' H' P := ⟨g.gg, fun a o h _ => g.hh a o h, fun a h => Same.no g.hh h, fun i a h => .inl ⟨i, h⟩, fun a h n => .inr (g.nw a h n)⟩
/-- the end of an expression -/
theorem Post.alc {G0 H0 : Hp} {P0 : Nat → Addr → Prop} {pu : Bool} (k : Post C G0 H0 P0 r σ pu (.v t) Q) (st : Sst C G H P r σ) (s : Stp G0 H0 P0 G H P) (hp : pu = true → Same H0 H) : Alc C G H t Q := fun v G' H' A g o hA => by
  refine k v G' H' P A (st.grow g) (s.trans (Stp.grow g)) ⟨o, fun i a ha hi => ?_⟩ (fun a ha => .inr (s.ld a (hA a ha))) fun e => (hp e).trans g.hh
  exact (st.dom hi).2 (hA a ha)
theorem Alc.fr (k : Alc C G H (.fr d) Q) (s : Same G H) (h : Rep C G d v) : Q v H := k v G H (fun _ => False) (Grow.refl s) (.fr h fun _ z => z) fun _ z => z.elim
theorem Alc.own (k : Alc C G H (.ow d) Q) (s : Same G H) {a : Addr} {o : HO} (ha : H a = none) (f : Flat C G d o) : Q (.ref a) (upd H a o) :=
  k (.ref a) G (upd H a o) (fun b => b = a) (Grow.nu s ha) (.ow upd_same (Same.no s ha) f fun _ => Iff.rfl) fun b e => by rw [e]; exact ha
theorem Alc.tup {ds : List D} {vs : List V} (k : Alc C G H (.fr (.tup ds)) Q) (s : Same G H) {a : Addr} (ha : H a = none) (f : Reps C G ds vs) : Q (.ref a) (upd H a (.tup vs)) :=
  k (.ref a) (upd G a (.tup vs)) (upd H a (.tup vs)) (fun _ => False) (Grow.nuF s ha) (.fr (.tup upd_same (Reps.mono (Same.nu (Same.no s ha)) f)) fun _ z => z) fun _ z => z.elim
/-- a value used: what it is -/
theorem Us.int {i : Int} (u : Us C G H (.int i) v) : v = .int i := by
  rcases u with u | ⟨p, o, _, _, f⟩
  · cases u; rfl
  · cases f
theorem Us.bl {i : Bool} (u : Us C G H (.bl i) v) : v = .bl i := by
  rcases u with u | ⟨p, o, _, _, f⟩
  · cases u; rfl
  · cases f
theorem Us.str {i : Str} (u : Us C G H (.str i) v) : v = .str i := by
  rcases u with u | ⟨p, o, _, _, f⟩
  · cases u; rfl
  · cases f
theorem Us.lst {ds : List D} (s : Same G H) (u : Us C G H (.lst ds) v) : ∃ p vs, v = .ref p ∧ H p = some (.lst vs) ∧ Reps C G ds vs := by
  rcases u with u | ⟨p, o, e, h, f⟩
  · cases u with
    | lst h r => exact ⟨_, _, rfl, s _ _ h, r⟩
  · cases f with
    | lst r => exact ⟨p, _, e, h, r⟩
theorem Us.tup {ds : List D} (s : Same G H) (u : Us C G H (.tup ds) v) : ∃ p vs, v = .ref p ∧ H p = some (.tup vs) ∧ G p = some (.tup vs) ∧ Reps C G ds vs := by
  rcases u with u | ⟨p, o, e, h, f⟩
  · cases u with
    | tup h r => exact ⟨_, _, rfl, s _ _ h, h, r⟩
  · cases f
theorem Us.scr {ns : List Int} (s : Same G H) (u : Us C G H (.scr ns) v) : ∃ p, v = .ref p ∧ SqL C.K H p (ns.map V.int) := by
  rcases u with u | ⟨p, o, e, h, f⟩
  · cases u with
    | scr h => exact ⟨_, rfl, Same.seq s h⟩
  · cases f
theorem Us.dK {ks : List Key} {ds : List D} (s : Same G H) (u : Us C G H (.dK ks ds) v) : ∃ p vs, v = .ref p ∧ H p = some (.dK (ks.zip vs)) ∧ ks.length = ds.length ∧ Reps C G ds vs := by
  rcases u with u | ⟨p, o, e, h, f⟩
  · cases u with
    | dK h l r => exact ⟨_, _, rfl, s _ _ h, l, r⟩
  · cases f with
    | dK l r => exact ⟨p, _, e, h, l, r⟩
theorem Us.dT {ks : List (List Key)} {ds : List D} (s : Same G H) (u : Us C G H (.dT ks ds) v) : ∃ p vs, v = .ref p ∧ H p = some (.dT (ks.zip vs)) ∧ ks.length = ds.length ∧ Reps C G ds vs := by
  rcases u with u | ⟨p, o, e, h, f⟩
  · cases u with
    | dT h l r => exact ⟨_, _, rfl, s _ _ h, l, r⟩
  · cases f with
    | dT l r => exact ⟨p, _, e, h, l, r⟩
theorem Us.obj {c : Nat} {ds : List D} (s : Same G H) (u : Us C G H (.obj c ds) v) : ∃ p dx vs, v = .ref p ∧ H p = some (.ins (C.cls c) dx ((C.fld c).zip vs)) ∧ Reps C G ds vs := by
  rcases u with u | ⟨p, o, e, h, f⟩
  · cases u with
    | obj h r => exact ⟨_, _, _, rfl, s _ _ h, r⟩
  · cases f with
    | obj r => exact ⟨p, _, _, e, h, r⟩
end

theorem mulOk_ok {i j : Int} (h : mulOk i j = true) : CMul i j := by
  unfold mulOk at h
  rw [Bool.or_eq_true, decide_eq_true_eq, decide_eq_true_eq] at h
  exact h
theorem divOk_ok {j : Int} (h : divOk j = true) : 0 < j ∧ j.natAbs.log2 < 9000 := by
  unfold divOk at h
  rw [decide_eq_true_eq] at h
  refine ⟨h.1, ?_⟩
  have h1 : j.natAbs < 2 ^ 64 := by omega
  have := PySem.Flt.log2_lt_of (by decide : 0 < 64) h1
  omega

/-- a binary operator, by trees -/
def rB (C : Ct) (o : Bop) : R2 := fun x y H Q => ∃ G a b t, Same G H ∧ Us C G H a x ∧ Us C G H b y ∧ binD o a b = some t ∧ Alc C G H t Q
def opOf : Bop → Operator
  | .add => .Add | .sub => .Sub | .mul => .Mult | .fdiv => .FloorDiv | .mod => .Mod | .pow => .Pow
theorem binOp_of {o : Operator} {b : Bop} (h : binOp o = some b) : o = opOf b := by
  cases o <;> simp [binOp] at h <;> subst h <;> rfl
theorem rep_vals {C : Ct} {G : Hp} {ds : List D} {vs : List V} (r : Reps C G ds vs) (n : Nat) : Reps C G (rep n ds) (List.replicate n vs).flatten := by
  unfold rep
  induction n with
  | zero => exact .nil
  | succ n ih => rw [List.replicate_succ, List.replicate_succ, List.flatten_cons, List.flatten_cons]; exact Reps.app r ih
theorem op_bin {X : Cx} {C : Ct} (hK : X.K = C.K) (o : Bop) : OpR X (binaryOp (opOf o)) (rB C o) := by
  intro pins s σ H x y v u Q I rx ry ⟨G, a, b, t, gh, ux, uy, e, k⟩
  cases o with
  | add =>
    cases a with
    | int i =>
      cases b with
      | int j =>
        cases e
        cases ux.int; cases uy.int
        exact op_add pins s σ H _ _ v u Q I rx ry ⟨i, j, rfl, rfl, k.fr gh .int⟩
      | _ => cases e
    | str i =>
      cases b with
      | str j =>
        simp only [binD] at e
        split at e
        · cases e
          cases ux.str; cases uy.str
          exact op_add_str pins s σ H _ _ v u Q I rx ry ⟨i, j, rfl, rfl, by assumption, k.fr gh .str⟩
        · cases e
      | _ => cases e
    | lst xs =>
      cases b with
      | lst ys =>
        simp only [binD] at e
        split at e
        · cases e
          obtain ⟨p, vs, rfl, h1, r1⟩ := ux.lst gh
          obtain ⟨q, us, rfl, h2, r2⟩ := uy.lst gh
          refine op_cat pins s σ H _ _ v u Q I rx ry ⟨p, q, vs, us, rfl, rfl, h1, h2, ?_, fun z hz => k.own gh hz (.lst (Reps.app r1 r2))⟩
          rw [← Reps.length r1, ← Reps.length r2]; assumption
        · cases e
      | _ => cases e
    | tup xs =>
      cases b with
      | tup ys =>
        simp only [binD] at e
        split at e
        · cases e
          obtain ⟨p, vs, rfl, h1, g1, r1⟩ := ux.tup gh
          obtain ⟨q, us, rfl, h2, g2, r2⟩ := uy.tup gh
          refine op_catA pins s σ H _ _ v u Q I rx ry ⟨p, q, vs, us, rfl, rfl, SqT.of h1, SqT.of h2, ?_, fun e => ?_, fun _ e => ?_, fun _ _ z hz => k.tup gh hz (Reps.app r1 r2)⟩
          · rw [← Reps.length r1, ← Reps.length r2]; assumption
          · subst e
            cases r1
            exact k.fr gh (.tup g2 r2)
          · subst e
            cases r2
            rw [List.append_nil] at k
            exact k.fr gh (.tup g1 r1)
        · cases e
      | _ => cases e
    | _ => cases e
  | sub =>
    cases a with
    | int i =>
      cases b with
      | int j =>
        cases e
        cases ux.int; cases uy.int
        exact op_sub pins s σ H _ _ v u Q I rx ry ⟨i, j, rfl, rfl, k.fr gh .int⟩
      | _ => cases e
    | _ => cases e
  | mul =>
    cases a with
    | int i =>
      cases b with
      | int j =>
        simp only [binD] at e
        split at e
        · rename_i hm
          cases e
          cases ux.int; cases uy.int
          exact op_mul pins s σ H _ _ v u Q I rx ry ⟨i, j, rfl, rfl, mulOk_ok hm, k.fr gh .int⟩
        · cases e
      | _ => cases e
    | lst xs =>
      cases b with
      | int j =>
        simp only [binD] at e
        split at e
        · rename_i hm
          cases e
          cases uy.int
          obtain ⟨p, vs, rfl, h1, r1⟩ := ux.lst gh
          refine op_rep pins s σ H _ _ v u Q I rx ry ⟨p, j, vs, rfl, rfl, h1, hm.1, hm.2.1, ?_, fun z hz => k.own gh hz (.lst (rep_vals r1 _))⟩
          rw [← Reps.length r1]; exact hm.2.2
        · cases e
      | _ => cases e
    | _ => cases e
  | fdiv =>
    cases a with
    | int i =>
      cases b with
      | int j =>
        simp only [binD] at e
        split at e
        · rename_i hm
          cases e
          cases ux.int; cases uy.int
          exact op_fdivW pins s σ H _ _ v u Q I rx ry ⟨i, j, rfl, rfl, divOk_ok hm, k.fr gh .int⟩
        · cases e
      | _ => cases e
    | _ => cases e
  | mod =>
    cases a with
    | int i =>
      cases b with
      | int j =>
        simp only [binD] at e
        split at e
        · rename_i hm
          cases e
          cases ux.int; cases uy.int
          exact op_mod pins s σ H _ _ v u Q I rx ry ⟨i, j, rfl, rfl, hm, k.fr gh .int⟩
        · cases e
      | _ => cases e
    | _ => cases e
  | pow =>
    cases a with
    | int i =>
      cases b with
      | int j =>
        simp only [binD] at e
        split at e
        · rename_i hm
          cases e
          cases ux.int; cases uy.int
          exact op_pow pins s σ H _ _ v u Q I rx ry ⟨i, j, rfl, rfl, ⟨hm.1, hm.2.1, hm.2.2⟩, k.fr gh .int⟩
        · cases e
      | _ => cases e
    | _ => cases e
end FJ

/-! Two things compared, by their trees. -/
namespace FJ
open PySem L2 PySem.SeqAt

theorem pys_length : ∀ ds : List D, (D.pys ds).length = ds.length
  | [] => rfl
  | _ :: r => by simp [D.pys, pys_length r]
theorem pys_get : ∀ (ds : List D) (j : Nat), (D.pys ds).getD j .none = (ds.getD j .non).py
  | [], _ => by simp [D.pys, D.py]
  | d :: r, 0 => by simp [D.pys]
  | d :: r, j + 1 => by simpa [D.pys] using pys_get r j
theorem plains_get {n : Nat} : ∀ {ds : List D} {j : Nat} {d : D}, D.plains n ds = true → ds[j]? = some d → d.plain n = true
  | [], _, _, _, e => by simp at e
  | c :: r, 0, d, h, e => by
    simp only [D.plains, Bool.and_eq_true] at h
    simp at e; subst e; exact h.1
  | c :: r, j + 1, d, h, e => by
    simp only [D.plains, Bool.and_eq_true] at h
    exact plains_get (j := j) h.2 (by simpa using e)
mutual
theorem eqv_self : ∀ (n : Nat) (d : D), d.plain n = true → PyData.eqv d.py d.py = true
  | _, .non, _ => by simp [D.py, PyData.eqv]
  | _, .bl b, _ => by simp [D.py, PyData.eqv]
  | _, .int i, _ => by simp [D.py, PyData.eqv]
  | _, .str s, _ => by simp [D.py, PyData.eqv]
  | 0, .tup _, h => by simp [D.plain] at h
  | 0, .lst _, h => by simp [D.plain] at h
  | n + 1, .tup xs, h => by
    simp only [D.plain] at h
    simp only [D.py, PyData.eqv]
    exact eqv_selfs n xs h
  | n + 1, .lst xs, h => by
    simp only [D.plain] at h
    simp only [D.py, PyData.eqv]
    exact eqv_selfs n xs h
  | n, .dK _ _, h => by cases n <;> simp [D.plain] at h
  | n, .dT _ _, h => by cases n <;> simp [D.plain] at h
  | n, .obj _ _, h => by cases n <;> simp [D.plain] at h
  | n, .scr _, h => by cases n <;> simp [D.plain] at h
theorem eqv_selfs : ∀ (n : Nat) (ds : List D), D.plains n ds = true → PyData.eqvAll (D.pys ds) (D.pys ds) = true
  | _, [], _ => by simp [D.pys, PyData.eqvAll]
  | n, d :: r, h => by
    simp only [D.plains, Bool.and_eq_true] at h
    simp only [D.pys, PyData.eqvAll, eqv_self n d h.1, eqv_selfs n r h.2, Bool.and_self]
end
section
variable {C : Ct} {H : Hp}
mutual
theorem Rep.same : ∀ {d e : D} {v : V} {n m : Nat}, Rep C H d v → Rep C H e v → d.plain n = true → e.plain m = true → d = e
  | _, _, _, _, _, .non, h, _, _ => by cases h; rfl
  | _, _, _, _, _, .bl, h, _, _ => by cases h; rfl
  | _, _, _, _, _, .int, h, _, _ => by cases h; rfl
  | _, _, _, _, _, .str, h, _, _ => by cases h; rfl
  | .tup xs, _, _, n, m, .tup h r, h', hn, hm => by
    cases h' with
    | tup g q =>
      rw [h] at g; cases g
      cases n with
      | zero => simp [D.plain] at hn
      | succ n =>
        cases m with
        | zero => simp [D.plain] at hm
        | succ m =>
          simp only [D.plain] at hn hm
          rw [Reps.same r q hn hm]
    | lst g q => rw [h] at g; cases g
    | dK g _ q => rw [h] at g; cases g
    | dT g _ q => rw [h] at g; cases g
    | obj g q => rw [h] at g; cases g
    | scr g => cases m <;> simp [D.plain] at hm
  | .lst xs, _, _, n, m, .lst h r, h', hn, hm => by
    cases h' with
    | lst g q =>
      rw [h] at g; cases g
      cases n with
      | zero => simp [D.plain] at hn
      | succ n =>
        cases m with
        | zero => simp [D.plain] at hm
        | succ m =>
          simp only [D.plain] at hn hm
          rw [Reps.same r q hn hm]
    | tup g q => rw [h] at g; cases g
    | dK g _ q => rw [h] at g; cases g
    | dT g _ q => rw [h] at g; cases g
    | obj g q => rw [h] at g; cases g
    | scr g => cases m <;> simp [D.plain] at hm
  | _, _, _, n, _, .dK _ _ _, _, hn, _ => by cases n <;> simp [D.plain] at hn
  | _, _, _, n, _, .dT _ _ _, _, hn, _ => by cases n <;> simp [D.plain] at hn
  | _, _, _, n, _, .obj _ _, _, hn, _ => by cases n <;> simp [D.plain] at hn
  | _, _, _, n, _, .scr _, _, hn, _ => by cases n <;> simp [D.plain] at hn
theorem Reps.same : ∀ {ds es : List D} {vs : List V} {n m : Nat}, Reps C H ds vs → Reps C H es vs → D.plains n ds = true → D.plains m es = true → ds = es
  | _, _, _, _, _, .nil, h, _, _ => by cases h; rfl
  | _, _, _, n, m, .cons a b, .cons a' b', hn, hm => by
    simp only [D.plains, Bool.and_eq_true] at hn hm
    rw [Rep.same a a' hn.1 hm.1, Reps.same b b' hn.2 hm.2]
end
end
section
variable {P : Program} {w : World} {C : Ct} {H : Hp} {s : Shared}
theorem lst_is (ok : HOk P w H s.heap) {p : Addr} {vs : List V} (h : H p = some (.lst vs)) : ∃ its, Vals vs its ∧ s.heap.IsList p its.toArray := by
  obtain ⟨_, its, n, r, e⟩ := (show ObjOk P w H s.heap p (.lst vs) from ok p _ h)
  exact ⟨its, r, _, e, rfl, n, rfl⟩
theorem tup_is (ok : HOk P w H s.heap) {p : Addr} {vs : List V} (h : H p = some (.tup vs)) : ∃ its, Vals vs its ∧ s.heap.IsTuple p its.toArray := by
  obtain ⟨_, its, r, o, e, c, n, q⟩ := (show ObjOk P w H s.heap p (.tup vs) from ok p _ h)
  exact ⟨its, r, o, e, c, n, q⟩
/-- what is shown of the parts -/
def Parts (C : Ct) (H : Hp) (s : Shared) (n : Nat) : Prop := ∀ (d e : D) (A : Around) (x y : V) (u v : Value), d.plain n = true → e.plain n = true → Rep C H d x → Rep C H e y → RelV x u → RelV y v → A.units + n < cLine →
  EqAt A s u v (PyData.eqv d.py e.py)
theorem parts_of {n : Nat} (ih : Parts C H s n) {A : Around} {ds es : List D} {vs ws : List V} {us zs : List Value} (hd : D.plains n ds = true) (he : D.plains n es = true) (r1 : Reps C H ds vs) (r2 : Reps C H es ws) (q1 : Vals vs us) (q2 : Vals ws zs)
    (hu : A.units + n < cLine) : ∀ j (h1 : j < us.toArray.size) (h2 : j < zs.toArray.size), EqAt A s us.toArray[j] zs.toArray[j] (pairEq (D.pys ds) (D.pys es) j) := fun j h1 h2 => by
  have h1' : j < us.length := by simpa using h1
  have h2' : j < zs.length := by simpa using h2
  have l1 : j < vs.length := by rw [q1.length]; exact h1'
  have l2 : j < ws.length := by rw [q2.length]; exact h2'
  obtain ⟨a, ea, ra⟩ := Reps.getV r1 (List.getElem?_eq_getElem l1)
  obtain ⟨b, eb, rb⟩ := Reps.getV r2 (List.getElem?_eq_getElem l2)
  obtain ⟨u, eu, ru⟩ := q1.get (List.getElem?_eq_getElem l1)
  obtain ⟨z, ez, rz⟩ := q2.get (List.getElem?_eq_getElem l2)
  have e1 : us.toArray[j] = u := by
    have : us[j]? = some us.toArray[j] := by simp [h1']
    rw [eu] at this; exact (Option.some.inj this).symm
  have e2 : zs.toArray[j] = z := by
    have : zs[j]? = some zs.toArray[j] := by simp [h2']
    rw [ez] at this; exact (Option.some.inj this).symm
  have e3 : pairEq (D.pys ds) (D.pys es) j = PyData.eqv a.py b.py := by
    show PyData.eqv _ _ = _
    rw [pys_get, pys_get, List.getD_eq_getElem?_getD, List.getD_eq_getElem?_getD, ea, eb]
    rfl
  rw [e1, e2, e3]
  exact ih a b A _ _ u z (plains_get hd ea) (plains_get he eb) ra rb ru rz hu
theorem rc_lists {n : Nat} (ih : Parts C H s n) {A : Around} {ds es : List D} {vs ws : List V} {us zs : List Value} {p q : Addr} (hd : D.plains n ds = true) (he : D.plains n es = true) (r1 : Reps C H ds vs) (r2 : Reps C H es ws) (q1 : Vals vs us) (q2 : Vals ws zs)
    (i1 : s.heap.IsList p us.toArray) (i2 : s.heap.IsList q zs.toArray) (hu : A.units + (n + 1) < cLine) : RcAt A s (.ref p) (.ref q) (PyData.eqv (.list (D.pys ds)) (.list (D.pys es))) := by
  have l1 : us.toArray.size = (D.pys ds).length := by rw [pys_length, Reps.length r1, q1.length]; simp
  have l2 : zs.toArray.size = (D.pys es).length := by rw [pys_length, Reps.length r2, q2.length]; simp
  by_cases hl : us.toArray.size = zs.toArray.size
  · have h := RcAt.lists (A := A) i1 i2 hl (by omega) (parts_of ih hd he r1 r2 q1 q2 (by show A.units + 1 + n < cLine; omega))
    have e : (List.range us.toArray.size).all (pairEq (D.pys ds) (D.pys es)) = PyData.eqvAll (D.pys ds) (D.pys es) := by
      rw [l1]
      exact eqvAll_same_length (by omega)
    rw [e] at h
    simpa only [PyData.eqv] using h
  · have h := RcAt.lists_lengths (A := A) i1 i2 (by simpa using hl) (by omega)
    have e : PyData.eqvAll (D.pys ds) (D.pys es) = false := eqvAll_other_length (by omega)
    simp only [PyData.eqv, e]
    exact h
theorem rc_tups {n : Nat} (ih : Parts C H s n) {A : Around} {ds es : List D} {vs ws : List V} {us zs : List Value} {p q : Addr} (hd : D.plains n ds = true) (he : D.plains n es = true) (r1 : Reps C H ds vs) (r2 : Reps C H es ws) (q1 : Vals vs us) (q2 : Vals ws zs)
    (i1 : s.heap.IsTuple p us.toArray) (i2 : s.heap.IsTuple q zs.toArray) (hu : A.units + (n + 1) < cLine) : RcAt A s (.ref p) (.ref q) (PyData.eqv (.tuple (D.pys ds)) (.tuple (D.pys es))) := by
  have l1 : us.toArray.size = (D.pys ds).length := by rw [pys_length, Reps.length r1, q1.length]; simp
  have l2 : zs.toArray.size = (D.pys es).length := by rw [pys_length, Reps.length r2, q2.length]; simp
  have h := RcAt.tuples (A := A) i1 i2 (by omega) (parts_of ih hd he r1 r2 q1 q2 (by show A.units + 1 + n < cLine; omega))
  have e := eqvAll_eq (D.pys ds) (D.pys es)
  rw [l1, l2, e] at h
  simpa only [PyData.eqv] using h
theorem rc_at (ok : HOk P w H s.heap) {n : Nat} (ih : ∀ m, m < n → Parts C H s m) : ∀ (d e : D) (A : Around) (x y : V) (u v : Value), d.plain n = true → e.plain n = true → Rep C H d x → Rep C H e y → RelV x u → RelV y v → A.units + n < cLine →
    RcAt A s u v (PyData.eqv d.py e.py) := by
  intro d e A x y u v hd he rd re ru rv hu
  have hu0 : A.units < cLine := by omega
  cases rd with
  | non =>
    cases ru
    cases re with
    | non => cases rv; exact RcAt.none_none
    | bl => cases rv; exact RcAt.none_bool _
    | int => obtain ⟨t, rfl⟩ := rv; exact RcAt.none_int _ t
    | str => obtain ⟨t, rfl⟩ := rv; exact RcAt.none_str _ t
    | lst h r => cases rv; obtain ⟨its, q, il⟩ := lst_is ok h; exact RcAt.none_list il hu0
    | tup h r => cases rv; obtain ⟨its, q, il⟩ := tup_is ok h; exact RcAt.none_tuple il hu0
    | dK _ _ _ => cases n <;> simp [D.plain] at he
    | dT _ _ _ => cases n <;> simp [D.plain] at he
    | obj _ _ => cases n <;> simp [D.plain] at he
    | scr _ => cases n <;> simp [D.plain] at he
  | bl =>
    cases ru
    cases re with
    | non => cases rv; exact RcAt.bool_none _
    | bl => cases rv; exact RcAt.bool_bool _ _
    | int => obtain ⟨t, rfl⟩ := rv; exact RcAt.bool_int _ _ t
    | str => obtain ⟨t, rfl⟩ := rv; exact RcAt.bool_str _ _ t
    | lst h r => cases rv; obtain ⟨its, q, il⟩ := lst_is ok h; exact RcAt.bool_list _ il hu0
    | tup h r => cases rv; obtain ⟨its, q, il⟩ := tup_is ok h; exact RcAt.bool_tuple _ il hu0
    | dK _ _ _ => cases n <;> simp [D.plain] at he
    | dT _ _ _ => cases n <;> simp [D.plain] at he
    | obj _ _ => cases n <;> simp [D.plain] at he
    | scr _ => cases n <;> simp [D.plain] at he
  | int =>
    obtain ⟨t0, rfl⟩ := ru
    cases re with
    | non => cases rv; exact RcAt.int_none _ _
    | bl => cases rv; exact RcAt.int_bool _ _ _
    | int => obtain ⟨t, rfl⟩ := rv; exact RcAt.int_int _ _ _ t
    | str => obtain ⟨t, rfl⟩ := rv; exact RcAt.int_str _ _ _ t
    | lst h r => cases rv; obtain ⟨its, q, il⟩ := lst_is ok h; exact RcAt.int_list _ _ il hu0
    | tup h r => cases rv; obtain ⟨its, q, il⟩ := tup_is ok h; exact RcAt.int_tuple _ _ il hu0
    | dK _ _ _ => cases n <;> simp [D.plain] at he
    | dT _ _ _ => cases n <;> simp [D.plain] at he
    | obj _ _ => cases n <;> simp [D.plain] at he
    | scr _ => cases n <;> simp [D.plain] at he
  | str =>
    obtain ⟨t0, rfl⟩ := ru
    cases re with
    | non => cases rv; exact RcAt.str_none _ _
    | bl => cases rv; exact RcAt.str_bool _ _ _
    | int => obtain ⟨t, rfl⟩ := rv; exact RcAt.str_int _ _ _ t
    | str => obtain ⟨t, rfl⟩ := rv; exact RcAt.str_str _ _ _ t
    | lst h r => cases rv; obtain ⟨its, q, il⟩ := lst_is ok h; exact RcAt.str_list _ _ il hu0
    | tup h r => cases rv; obtain ⟨its, q, il⟩ := tup_is ok h; exact RcAt.str_tuple _ _ il hu0
    | dK _ _ _ => cases n <;> simp [D.plain] at he
    | dT _ _ _ => cases n <;> simp [D.plain] at he
    | obj _ _ => cases n <;> simp [D.plain] at he
    | scr _ => cases n <;> simp [D.plain] at he
  | lst h1 r1 =>
    cases ru
    obtain ⟨its, q1, i1⟩ := lst_is ok h1
    cases re with
    | non => cases rv; exact RcAt.list_none i1 hu0
    | bl => cases rv; exact RcAt.list_bool _ i1 hu0
    | int => obtain ⟨t, rfl⟩ := rv; exact RcAt.list_int _ t i1 hu0
    | str => obtain ⟨t, rfl⟩ := rv; exact RcAt.list_str _ t i1 hu0
    | lst h2 r2 =>
      cases rv
      obtain ⟨its2, q2, i2⟩ := lst_is ok h2
      cases n with
      | zero => simp [D.plain] at hd
      | succ n =>
        simp only [D.plain] at hd he
        exact rc_lists (ih n (Nat.lt_succ_self n)) hd he r1 r2 q1 q2 i1 i2 hu
    | tup h2 r2 => cases rv; obtain ⟨its2, q2, i2⟩ := tup_is ok h2; exact RcAt.list_tuple i1 i2 hu0
    | dK _ _ _ => cases n <;> simp [D.plain] at he
    | dT _ _ _ => cases n <;> simp [D.plain] at he
    | obj _ _ => cases n <;> simp [D.plain] at he
    | scr _ => cases n <;> simp [D.plain] at he
  | tup h1 r1 =>
    cases ru
    obtain ⟨its, q1, i1⟩ := tup_is ok h1
    cases re with
    | non => cases rv; exact RcAt.tuple_none i1 hu0
    | bl => cases rv; exact RcAt.tuple_bool _ i1 hu0
    | int => obtain ⟨t, rfl⟩ := rv; exact RcAt.tuple_int _ t i1 hu0
    | str => obtain ⟨t, rfl⟩ := rv; exact RcAt.tuple_str _ t i1 hu0
    | lst h2 r2 => cases rv; obtain ⟨its2, q2, i2⟩ := lst_is ok h2; exact RcAt.tuple_list i1 i2 hu0
    | tup h2 r2 =>
      cases rv
      obtain ⟨its2, q2, i2⟩ := tup_is ok h2
      cases n with
      | zero => simp [D.plain] at hd
      | succ n =>
        simp only [D.plain] at hd he
        exact rc_tups (ih n (Nat.lt_succ_self n)) hd he r1 r2 q1 q2 i1 i2 hu
    | dK _ _ _ => cases n <;> simp [D.plain] at he
    | dT _ _ _ => cases n <;> simp [D.plain] at he
    | obj _ _ => cases n <;> simp [D.plain] at he
    | scr _ => cases n <;> simp [D.plain] at he
  | dK _ _ _ => cases n <;> simp [D.plain] at hd
  | dT _ _ _ => cases n <;> simp [D.plain] at hd
  | obj _ _ => cases n <;> simp [D.plain] at hd
  | scr _ => cases n <;> simp [D.plain] at hd
theorem atom_eq {A : Around} {d e : D} {x y : V} {u v : Value} (ok : HOk P w H s.heap) {n : Nat} (hd : d.plain n = true) (he : e.plain n = true) (rd : Rep C H d x) (re : Rep C H e y) (ru : RelV x u) (rv : RelV y v) (hu : A.units + n < cLine)
    (h : RcAt A s u v (PyData.eqv d.py e.py)) : EqAt A s u v (PyData.eqv d.py e.py) := fun prog w' E Q q => by
  unfold eqBool
  refine wpAny_holding ?_
  refine wpAny_ite_split (fun hab => ?_) (fun _ => ?_)
  rotate_left
  · cases u with
    | float b t =>
      have e0 : x = .flt b := ru.inj (show RelV (.flt b) (.float b t) from ⟨t, rfl⟩)
      subst e0
      cases rd
    | _ => exact wpAny_bind (h prog w' E _ (wpAny_truthy_bool q))
  have e1 := eq_of_beq hab
  subst e1
  have e2 : x = y := ru.inj rv
  subst e2
  have e3 := Rep.same rd re hd he
  subst e3
  rw [eqv_self n d hd] at q
  exact wpAny_bind (wpAny_rule (wpAny_pure q))
theorem parts_all (ok : HOk P w H s.heap) : ∀ n, Parts C H s n := by
  intro n
  induction n using Nat.strongRecOn with
  | _ n ih =>
    intro d e A x y u v hd he rd re ru rv hu
    exact atom_eq ok hd he rd re ru rv hu (rc_at ok ih d e A x y u v hd he rd re ru rv hu)
theorem rn_lists {n : Nat} (ih : Parts C H s n) {A : Around} {ds es : List D} {vs ws : List V} {us zs : List Value} {p q : Addr} (hd : D.plains n ds = true) (he : D.plains n es = true) (r1 : Reps C H ds vs) (r2 : Reps C H es ws) (q1 : Vals vs us) (q2 : Vals ws zs)
    (i1 : s.heap.IsList p us.toArray) (i2 : s.heap.IsList q zs.toArray) (hu : A.units + (n + 1) < cLine) : RcNeAt A s (.ref p) (.ref q) (!PyData.eqv (.list (D.pys ds)) (.list (D.pys es))) := by
  have l1 : us.toArray.size = (D.pys ds).length := by rw [pys_length, Reps.length r1, q1.length]; simp
  have l2 : zs.toArray.size = (D.pys es).length := by rw [pys_length, Reps.length r2, q2.length]; simp
  by_cases hl : us.toArray.size = zs.toArray.size
  · have h := RcNeAt.lists (A := A) i1 i2 hl (by omega) (parts_of ih hd he r1 r2 q1 q2 (by show A.units + 1 + n < cLine; omega))
    have e : (List.range us.toArray.size).all (pairEq (D.pys ds) (D.pys es)) = PyData.eqvAll (D.pys ds) (D.pys es) := by
      rw [l1]
      exact eqvAll_same_length (by omega)
    rw [e] at h
    simpa only [PyData.eqv] using h
  · have h := RcNeAt.lists_lengths (A := A) i1 i2 (by simpa using hl) (by omega)
    have e : PyData.eqvAll (D.pys ds) (D.pys es) = false := eqvAll_other_length (by omega)
    simp only [PyData.eqv, e]
    exact h
theorem rn_tups {n : Nat} (ih : Parts C H s n) {A : Around} {ds es : List D} {vs ws : List V} {us zs : List Value} {p q : Addr} (hd : D.plains n ds = true) (he : D.plains n es = true) (r1 : Reps C H ds vs) (r2 : Reps C H es ws) (q1 : Vals vs us) (q2 : Vals ws zs)
    (i1 : s.heap.IsTuple p us.toArray) (i2 : s.heap.IsTuple q zs.toArray) (hu : A.units + (n + 1) < cLine) : RcNeAt A s (.ref p) (.ref q) (!PyData.eqv (.tuple (D.pys ds)) (.tuple (D.pys es))) := by
  have l1 : us.toArray.size = (D.pys ds).length := by rw [pys_length, Reps.length r1, q1.length]; simp
  have l2 : zs.toArray.size = (D.pys es).length := by rw [pys_length, Reps.length r2, q2.length]; simp
  have h := RcNeAt.tuples (A := A) i1 i2 (by omega) (parts_of ih hd he r1 r2 q1 q2 (by show A.units + 1 + n < cLine; omega))
  have e := eqvAll_eq (D.pys ds) (D.pys es)
  rw [l1, l2, e] at h
  simpa only [PyData.eqv] using h
theorem rn_at (ok : HOk P w H s.heap) {n : Nat} (ih : ∀ m, m < n → Parts C H s m) : ∀ (d e : D) (A : Around) (x y : V) (u v : Value), d.plain n = true → e.plain n = true → Rep C H d x → Rep C H e y → RelV x u → RelV y v → A.units + n < cLine →
    RcNeAt A s u v (!PyData.eqv d.py e.py) := by
  intro d e A x y u v hd he rd re ru rv hu
  have hu0 : A.units < cLine := by omega
  cases rd with
  | non =>
    cases ru
    cases re with
    | non => cases rv; exact RcNeAt.none_none
    | bl => cases rv; exact RcNeAt.none_bool _
    | int => obtain ⟨t, rfl⟩ := rv; exact RcNeAt.none_int _ t
    | str => obtain ⟨t, rfl⟩ := rv; exact RcNeAt.none_str _ t
    | lst h r => cases rv; obtain ⟨its, q, il⟩ := lst_is ok h; exact RcNeAt.none_list il hu0
    | tup h r => cases rv; obtain ⟨its, q, il⟩ := tup_is ok h; exact RcNeAt.none_tuple il hu0
    | dK _ _ _ => cases n <;> simp [D.plain] at he
    | dT _ _ _ => cases n <;> simp [D.plain] at he
    | obj _ _ => cases n <;> simp [D.plain] at he
    | scr _ => cases n <;> simp [D.plain] at he
  | bl =>
    cases ru
    cases re with
    | non => cases rv; exact RcNeAt.bool_none _
    | bl => cases rv; exact RcNeAt.bool_bool _ _
    | int => obtain ⟨t, rfl⟩ := rv; exact RcNeAt.bool_int _ _ t
    | str => obtain ⟨t, rfl⟩ := rv; exact RcNeAt.bool_str _ _ t
    | lst h r => cases rv; obtain ⟨its, q, il⟩ := lst_is ok h; exact RcNeAt.bool_list _ il hu0
    | tup h r => cases rv; obtain ⟨its, q, il⟩ := tup_is ok h; exact RcNeAt.bool_tuple _ il hu0
    | dK _ _ _ => cases n <;> simp [D.plain] at he
    | dT _ _ _ => cases n <;> simp [D.plain] at he
    | obj _ _ => cases n <;> simp [D.plain] at he
    | scr _ => cases n <;> simp [D.plain] at he
  | int =>
    obtain ⟨t0, rfl⟩ := ru
    cases re with
    | non => cases rv; exact RcNeAt.int_none _ _
    | bl => cases rv; exact RcNeAt.int_bool _ _ _
    | int => obtain ⟨t, rfl⟩ := rv; exact RcNeAt.int_int _ _ _ t
    | str => obtain ⟨t, rfl⟩ := rv; exact RcNeAt.int_str _ _ _ t
    | lst h r => cases rv; obtain ⟨its, q, il⟩ := lst_is ok h; exact RcNeAt.int_list _ _ il hu0
    | tup h r => cases rv; obtain ⟨its, q, il⟩ := tup_is ok h; exact RcNeAt.int_tuple _ _ il hu0
    | dK _ _ _ => cases n <;> simp [D.plain] at he
    | dT _ _ _ => cases n <;> simp [D.plain] at he
    | obj _ _ => cases n <;> simp [D.plain] at he
    | scr _ => cases n <;> simp [D.plain] at he
  | str =>
    obtain ⟨t0, rfl⟩ := ru
    cases re with
    | non => cases rv; exact RcNeAt.str_none _ _
    | bl => cases rv; exact RcNeAt.str_bool _ _ _
    | int => obtain ⟨t, rfl⟩ := rv; exact RcNeAt.str_int _ _ _ t
    | str => obtain ⟨t, rfl⟩ := rv; exact RcNeAt.str_str _ _ _ t
    | lst h r => cases rv; obtain ⟨its, q, il⟩ := lst_is ok h; exact RcNeAt.str_list _ _ il hu0
    | tup h r => cases rv; obtain ⟨its, q, il⟩ := tup_is ok h; exact RcNeAt.str_tuple _ _ il hu0
    | dK _ _ _ => cases n <;> simp [D.plain] at he
    | dT _ _ _ => cases n <;> simp [D.plain] at he
    | obj _ _ => cases n <;> simp [D.plain] at he
    | scr _ => cases n <;> simp [D.plain] at he
  | lst h1 r1 =>
    cases ru
    obtain ⟨its, q1, i1⟩ := lst_is ok h1
    cases re with
    | non => cases rv; exact RcNeAt.list_none i1 hu0
    | bl => cases rv; exact RcNeAt.list_bool _ i1 hu0
    | int => obtain ⟨t, rfl⟩ := rv; exact RcNeAt.list_int _ t i1 hu0
    | str => obtain ⟨t, rfl⟩ := rv; exact RcNeAt.list_str _ t i1 hu0
    | lst h2 r2 =>
      cases rv
      obtain ⟨its2, q2, i2⟩ := lst_is ok h2
      cases n with
      | zero => simp [D.plain] at hd
      | succ n =>
        simp only [D.plain] at hd he
        exact rn_lists (ih n (Nat.lt_succ_self n)) hd he r1 r2 q1 q2 i1 i2 hu
    | tup h2 r2 => cases rv; obtain ⟨its2, q2, i2⟩ := tup_is ok h2; exact RcNeAt.list_tuple i1 i2 hu0
    | dK _ _ _ => cases n <;> simp [D.plain] at he
    | dT _ _ _ => cases n <;> simp [D.plain] at he
    | obj _ _ => cases n <;> simp [D.plain] at he
    | scr _ => cases n <;> simp [D.plain] at he
  | tup h1 r1 =>
    cases ru
    obtain ⟨its, q1, i1⟩ := tup_is ok h1
    cases re with
    | non => cases rv; exact RcNeAt.tuple_none i1 hu0
    | bl => cases rv; exact RcNeAt.tuple_bool _ i1 hu0
    | int => obtain ⟨t, rfl⟩ := rv; exact RcNeAt.tuple_int _ t i1 hu0
    | str => obtain ⟨t, rfl⟩ := rv; exact RcNeAt.tuple_str _ t i1 hu0
    | lst h2 r2 => cases rv; obtain ⟨its2, q2, i2⟩ := lst_is ok h2; exact RcNeAt.tuple_list i1 i2 hu0
    | tup h2 r2 =>
      cases rv
      obtain ⟨its2, q2, i2⟩ := tup_is ok h2
      cases n with
      | zero => simp [D.plain] at hd
      | succ n =>
        simp only [D.plain] at hd he
        exact rn_tups (ih n (Nat.lt_succ_self n)) hd he r1 r2 q1 q2 i1 i2 hu
    | dK _ _ _ => cases n <;> simp [D.plain] at he
    | dT _ _ _ => cases n <;> simp [D.plain] at he
    | obj _ _ => cases n <;> simp [D.plain] at he
    | scr _ => cases n <;> simp [D.plain] at he
  | dK _ _ _ => cases n <;> simp [D.plain] at hd
  | dT _ _ _ => cases n <;> simp [D.plain] at hd
  | obj _ _ => cases n <;> simp [D.plain] at hd
  | scr _ => cases n <;> simp [D.plain] at hd
end
/-- a == b -/
theorem op_eqT {X : Cx} {C : Ct} (hu : X.A.units + 64 < cLine) : OpR X (compareOp .Eq) (fun x y H Q => ∃ a b k, Rep C H a x ∧ Rep C H b y ∧ eqD a b = some k ∧ Q (.bl k) H) := by
  intro pins s σ H x y v u Q I rx ry ⟨a, b, k, ra, rb, e, q⟩
  unfold eqD at e
  split at e
  · rename_i hp
    cases e
    rw [Bool.and_eq_true] at hp
    exact rc_at (P := X.prog) (w := X.w) I.hok (fun m _ => parts_all I.hok m) a b X.A x y v u hp.1 hp.2 ra rb rx ry (by omega) X.prog X.w X.xe _ ⟨.bl _, H, I, rfl, q⟩
  · cases e
/-- a != b -/
theorem op_neT {X : Cx} {C : Ct} (hu : X.A.units + 64 < cLine) : OpR X (compareOp .NotEq) (fun x y H Q => ∃ a b k, Rep C H a x ∧ Rep C H b y ∧ (eqD a b).map (! ·) = some k ∧ Q (.bl k) H) := by
  intro pins s σ H x y v u Q I rx ry ⟨a, b, k, ra, rb, e, q⟩
  unfold eqD at e
  split at e
  · rename_i hp
    cases e
    rw [Bool.and_eq_true] at hp
    exact rn_at (P := X.prog) (w := X.w) I.hok (fun m _ => parts_all I.hok m) a b X.A x y v u hp.1 hp.2 ra rb rx ry (by omega) X.prog X.w X.xe _ ⟨.bl _, H, I, rfl, q⟩
  · cases e
end FJ

/-! Comparisons, items, slices, what is built in: by trees. -/
namespace FJ
open PySem L2 PySem.SeqAt

section
variable {C : Ct} {G H : Hp}
theorem Rep.inti {i : Int} {v : V} (r : Rep C H (.int i) v) : v = .int i := by cases r; rfl
theorem Rep.bli {i : Bool} {v : V} (r : Rep C H (.bl i) v) : v = .bl i := by cases r; rfl
theorem Rep.stri {i : Str} {v : V} (r : Rep C H (.str i) v) : v = .str i := by cases r; rfl
theorem Rep.nonv {v : V} (r : Rep C H .non v) : v = .non := by cases r; rfl
theorem Rep.us {d : D} {v : V} (r : Rep C G d v) : Us C G H d v := .inl r
theorem Same.rfl' : Same H H := Same.refl H
end

/-! ### in -/
noncomputable def eIn (C : Ct) (H : Hp) (n : Nat) (xp : PyData) (u : Value) : Bool := @decide (∃ d v, D.plain n d = true ∧ Rep C H d v ∧ RelV v u ∧ PyData.eqv d.py xp = true) (Classical.propDecidable _)
theorem eIn_of {C : Ct} {H : Hp} {n : Nat} {xp : PyData} {d : D} {v : V} {u : Value} (h : d.plain n = true) (r : Rep C H d v) (ru : RelV v u) : eIn C H n xp u = PyData.eqv d.py xp := by
  unfold eIn
  cases e : PyData.eqv d.py xp with
  | true => exact @decide_eq_true _ (Classical.propDecidable _) ⟨d, v, h, r, ru, e⟩
  | false =>
    refine @decide_eq_false _ (Classical.propDecidable _) fun ⟨d', v', h', r', ru', e'⟩ => ?_
    have ev := ru.inj ru'
    subst ev
    have ed := Rep.same r r' h h'
    subst ed
    rw [e] at e'; cases e'
theorem any_in {C : Ct} {H : Hp} {n : Nat} {xp : PyData} : ∀ {ds : List D} {vs : List V} {us : List Value}, D.plains n ds = true → Reps C H ds vs → Vals vs us → us.any (eIn C H n xp) = ds.any fun y => PyData.eqv y.py xp
  | _, _, _, _, .nil, .nil => rfl
  | d :: ds, _, _, h, .cons a b, .cons r t => by
    simp only [D.plains, Bool.and_eq_true] at h
    simp only [List.any_cons, any_in h.2 b t, eIn_of h.1 a r]
theorem all_in {P : Program} {w : World} {C : Ct} {H : Hp} {s : Shared} (ok : HOk P w H s.heap) {n : Nat} {A : Around} {d : D} {x : V} {v : Value} (hd : d.plain n = true) (rx : Rep C H d x) (ru : RelV x v) (hu : A.units + n < cLine) :
    ∀ {ds : List D} {vs : List V} {us : List Value}, D.plains n ds = true → Reps C H ds vs → Vals vs us → ∀ y, y ∈ us → EqAt A s y v (eIn C H n d.py y)
  | _, _, _, _, .nil, .nil, y, hy => by simp at hy
  | e :: ds, _, _, h, .cons a b, .cons r t, y, hy => by
    simp only [D.plains, Bool.and_eq_true] at h
    rcases List.mem_cons.mp hy with rfl | hy
    · rw [eIn_of h.1 a r]
      exact parts_all ok n e d A _ _ _ _ h.1 hd a rx r ru hu
    · exact all_in ok hd rx ru hu h.2 b t y hy
theorem str_one {a : Str} {c : Nat} (h : a.cps.toList = [c]) : a = ⟨#[c]⟩ := by
  cases a with
  | mk cps =>
    simp only at h
    congr 1
    rw [← Array.toArray_toList (xs := cps), h]
theorem mem_arr {us : List Value} {y : Value} (h : y ∈ us.toArray) : y ∈ us := by simpa using h

/-! ### comparisons -/
def rC (C : Ct) (o : Cop) : R2 := fun x y H Q => ∃ a b k, Rep C H a x ∧ Rep C H b y ∧ cmpD o a b = some k ∧ Q (.bl k) H
theorem op_cmp {X : Cx} {C : Ct} (hu : X.A.units + 64 < cLine) (o : CmpOp) : OpR X (compareOp o) (rC C (cmpOp o)) := by
  intro pins s σ H x y v u Q I rx ry ⟨a, b, k, ra, rb, e, q⟩
  cases o with
  | Eq => exact op_eqT hu pins s σ H x y v u Q I rx ry ⟨a, b, k, ra, rb, e, q⟩
  | NotEq => exact op_neT hu pins s σ H x y v u Q I rx ry ⟨a, b, k, ra, rb, e, q⟩
  | Lt =>
    cases a with
    | int i =>
      cases b with
      | int j => cases ra.inti; cases rb.inti; cases e; exact op_lt pins s σ H _ _ v u Q I rx ry ⟨i, j, rfl, rfl, q⟩
      | _ => cases e
    | _ => cases e
  | LtE =>
    cases a with
    | int i =>
      cases b with
      | int j => cases ra.inti; cases rb.inti; cases e; exact op_le pins s σ H _ _ v u Q I rx ry ⟨i, j, rfl, rfl, q⟩
      | _ => cases e
    | _ => cases e
  | Gt =>
    cases a with
    | int i =>
      cases b with
      | int j => cases ra.inti; cases rb.inti; cases e; exact op_gt pins s σ H _ _ v u Q I rx ry ⟨i, j, rfl, rfl, q⟩
      | _ => cases e
    | _ => cases e
  | GtE =>
    cases a with
    | int i =>
      cases b with
      | int j => cases ra.inti; cases rb.inti; cases e; exact op_ge pins s σ H _ _ v u Q I rx ry ⟨i, j, rfl, rfl, q⟩
      | _ => cases e
    | _ => cases e
  | Is =>
    cases b with
    | non =>
      cases rb.nonv
      have ek : some (decide (x = V.non)) = some k := by
        rw [← e]
        cases ra <;> simp [cmpOp, cmpD]
      cases ek
      exact op_isN pins s σ H _ _ v u Q I rx ry ⟨rfl, q⟩
    | bl j =>
      cases rb.bli
      cases a with
      | bl i =>
        cases ra.bli
        cases e
        cases rx; cases ry
        exact PySem.wpAny_is_plain rfl ⟨.bl _, H, I, by cases i <;> cases j <;> rfl, q⟩
      | non =>
        cases ra.nonv
        cases e
        cases rx; cases ry
        exact PySem.wpAny_is_plain rfl ⟨.bl _, H, I, rfl, q⟩
      | _ => cases e
    | _ => cases a <;> cases e
  | IsNot =>
    cases b with
    | non =>
      cases rb.nonv
      have ek : some (!decide (x = V.non)) = some k := by
        rw [← e]
        cases ra <;> simp [cmpOp, cmpD]
      cases ek
      exact op_notN pins s σ H _ _ v u Q I rx ry ⟨rfl, q⟩
    | bl j =>
      cases rb.bli
      cases a with
      | bl i =>
        cases ra.bli
        cases e
        cases rx; cases ry
        exact PySem.wpAny_isNot_plain rfl ⟨.bl _, H, I, by cases i <;> cases j <;> rfl, q⟩
      | non =>
        cases ra.nonv
        cases e
        cases rx; cases ry
        exact PySem.wpAny_isNot_plain rfl ⟨.bl _, H, I, rfl, q⟩
      | _ => cases e
    | _ => cases a <;> cases e
  | In =>
    cases b with
    | str z =>
      cases rb.stri
      cases a with
      | str y0 =>
        cases ra.stri
        simp only [cmpOp, cmpD, inD] at e
        split at e
        · rename_i c hc
          cases e
          cases str_one hc
          exact op_in_sign pins s σ H _ _ v u Q I rx ry ⟨c, z, rfl, rfl, q⟩
        · cases e
      | _ => cases e
    | lst ds =>
      have e' : (if a.plain 59 && D.plains 59 ds then some (ds.any fun y => PyData.eqv y.py a.py) else none) = some k := by
        cases a <;> exact e
      split at e'
      · rename_i hp
        cases e'
        rw [Bool.and_eq_true] at hp
        cases rb with
        | lst h r =>
          cases ry
          obtain ⟨its, q1, il⟩ := lst_is I.hok h
          refine in_listAt (eIn C H 59 a.py) il (fun y hy => all_in I.hok hp.1 ra rx (by show X.A.units + 1 + 59 < cLine; omega) hp.2 r q1 y (mem_arr hy)) ⟨.bl _, H, I, ?_, q⟩
          show Value.bool _ = Value.bool _
          congr 1
          rw [List.any_toArray]
          exact any_in hp.2 r q1
      · cases e'
    | tup ds =>
      have e' : (if a.plain 59 && D.plains 59 ds then some (ds.any fun y => PyData.eqv y.py a.py) else none) = some k := by
        cases a <;> exact e
      split at e'
      · rename_i hp
        cases e'
        rw [Bool.and_eq_true] at hp
        cases rb with
        | tup h r =>
          cases ry
          obtain ⟨its, q1, il⟩ := tup_is I.hok h
          refine in_tupleAt (eIn C H 59 a.py) il (fun y hy => all_in I.hok hp.1 ra rx (by show X.A.units + 1 + 59 < cLine; omega) hp.2 r q1 y (mem_arr hy)) ⟨.bl _, H, I, ?_, q⟩
          show Value.bool _ = Value.bool _
          congr 1
          rw [List.any_toArray]
          exact any_in hp.2 r q1
      · cases e'
    | _ => cases a <;> cases e
  | NotIn =>
    cases b with
    | str z =>
      cases rb.stri
      cases a with
      | str y0 =>
        cases ra.stri
        simp only [cmpOp, cmpD, inD] at e
        split at e
        · rename_i c hc
          cases e
          cases str_one hc
          exact op_notIn_sign pins s σ H _ _ v u Q I rx ry ⟨c, z, rfl, rfl, q⟩
        · cases e
      | _ => cases e
    | lst ds =>
      have e' : (if a.plain 59 && D.plains 59 ds then some (ds.any fun y => PyData.eqv y.py a.py) else none).map (! ·) = some k := by
        cases a <;> exact e
      split at e'
      · rename_i hp
        cases e'
        rw [Bool.and_eq_true] at hp
        cases rb with
        | lst h r =>
          cases ry
          obtain ⟨its, q1, il⟩ := lst_is I.hok h
          refine notIn_listAt (eIn C H 59 a.py) il (fun y hy => all_in I.hok hp.1 ra rx (by show X.A.units + 1 + 59 < cLine; omega) hp.2 r q1 y (mem_arr hy)) ⟨.bl _, H, I, ?_, q⟩
          show Value.bool _ = Value.bool _
          congr 2
          rw [List.any_toArray]
          exact any_in hp.2 r q1
      · cases e'
    | tup ds =>
      have e' : (if a.plain 59 && D.plains 59 ds then some (ds.any fun y => PyData.eqv y.py a.py) else none).map (! ·) = some k := by
        cases a <;> exact e
      split at e'
      · rename_i hp
        cases e'
        rw [Bool.and_eq_true] at hp
        cases rb with
        | tup h r =>
          cases ry
          obtain ⟨its, q1, il⟩ := tup_is I.hok h
          refine notIn_tupleAt (eIn C H 59 a.py) il (fun y hy => all_in I.hok hp.1 ra rx (by show X.A.units + 1 + 59 < cLine; omega) hp.2 r q1 y (mem_arr hy)) ⟨.bl _, H, I, ?_, q⟩
          show Value.bool _ = Value.bool _
          congr 2
          rw [List.any_toArray]
          exact any_in hp.2 r q1
      · cases e'
    | _ => cases a <;> cases e

/-! ### slices -/
def rSl (C : Ct) : V → Option Int → Option Int → Hp → VK → Prop := fun x lo hi H Q => ∃ G a t, Same G H ∧ Us C G H a x ∧ sliD a lo hi = some t ∧ Alc C G H t Q
theorem cut_reps {C : Ct} {G : Hp} {ds : List D} {vs : List V} (r : Reps C G ds vs) (lo hi : Option Int) : Reps C G (cut ds lo hi) (cutV vs lo hi) := by
  unfold cut cutV
  rw [Reps.length r]
  exact Reps.take _ (Reps.drop _ r)
theorem ints_reps {C : Ct} {G : Hp} : ∀ ns : List Int, Reps C G (ns.map .int) (ns.map V.int)
  | [] => .nil
  | _ :: r => .cons .int (ints_reps r)
theorem cut_map {α β : Type} (f : α → β) (xs : List α) (lo hi : Option Int) : cut (xs.map f) lo hi = (cut xs lo hi).map f := by
  unfold cut
  rw [List.length_map, ← List.map_drop, ← List.map_take]
theorem sl_any {X : Cx} {C : Ct} (hK : X.K = C.K) : SlR X (rSl C) := by
  intro pins s σ H x v vl vu lo hi sl Q I rx hs pl pu ⟨G, a, t, gh, ux, e, k⟩
  cases a with
  | lst ds =>
    cases e
    obtain ⟨p, vs, rfl, h, r⟩ := ux.lst gh
    exact sl_list pins s σ H _ v vl vu lo hi sl Q I rx hs pl pu ⟨p, vs, rfl, SqL.of h, fun q hq => k.own gh hq (.lst (cut_reps r lo hi))⟩
  | scr ns =>
    cases e
    obtain ⟨p, rfl, h⟩ := ux.scr gh
    rw [← hK] at h
    refine sl_list pins s σ H _ v vl vu lo hi sl Q I rx hs pl pu ⟨p, _, rfl, h, fun q hq => k.own gh hq (.lst ?_)⟩
    have := cut_reps (C := C) (G := G) (ints_reps ns) lo hi
    rw [cut_map] at this
    exact this
  | tup ds =>
    cases e
    obtain ⟨p, vs, rfl, h, g, r⟩ := ux.tup gh
    refine sl_tupA pins s σ H _ v vl vu lo hi sl Q I rx hs pl pu ⟨p, vs, rfl, SqT.of h, fun ⟨e1, e2⟩ => ?_, fun _ q hq => k.tup gh hq (cut_reps r lo hi)⟩
    have ec : cut ds lo hi = ds := by
      unfold cut
      rw [Reps.length r, e1, e2, List.drop_zero, Nat.sub_zero, ← Reps.length r, List.take_length]
    rw [ec] at k
    exact k.fr gh (.tup g r)
  | str z =>
    simp only [sliD] at e
    split at e
    · cases e
      cases ux.str
      exact sl_str pins s σ H _ v vl vu lo hi sl Q I rx hs pl pu ⟨z, rfl, by assumption, k.fr gh .str⟩
    · cases e
  | _ => cases e

/-! ### built in -/
def rBi (C : Ct) (f : BI) : List V → Hp → VK → Prop := fun vs H Q => ∃ G ds t, Same G H ∧ Paired (Us C G H) ds vs ∧ biD f ds = some t ∧ Alc C G H t Q
def idB : BI → String
  | .len => "len" | .sum => "sum" | .all => "all" | .any => "any" | .max => "max" | .min => "min" | .divmod => "divmod" | .sorted => "sorted" | _ => "?"
def idT : BI → String
  | .list => "list" | .tuple => "tuple" | .int => "int" | .str => "str" | .dict => "dict" | _ => "?"
theorem one_of {C : Ct} {G H : Hp} {d : D} {vs : List V} (h : Paired (Us C G H) [d] vs) : ∃ v, vs = [v] ∧ Us C G H d v := by
  cases h with
  | cons a b => cases b; exact ⟨_, rfl, a⟩
theorem two_of {C : Ct} {G H : Hp} {d e : D} {vs : List V} (h : Paired (Us C G H) [d, e] vs) : ∃ v u, vs = [v, u] ∧ Us C G H d v ∧ Us C G H e u := by
  cases h with
  | cons a b =>
    cases b with
    | cons c d => cases d; exact ⟨_, _, rfl, a, c⟩
theorem ints_of {C : Ct} {G : Hp} : ∀ {ds : List D} {vs : List V} {ns : List Int}, Reps C G ds vs → intsOf ds = some ns → vs = ns.map V.int
  | [], _, _, .nil, e => by cases e; rfl
  | d :: ds, _, ns, .cons a b, e => by
    cases d with
    | int i =>
      simp only [intsOf] at e
      cases h : intsOf ds with
      | none => rw [h] at e; cases e
      | some ms => rw [h] at e; cases e; rw [ints_of b h, a.inti]; rfl
    | _ => cases e
theorem bls_of {C : Ct} {G : Hp} : ∀ {ds : List D} {vs : List V} {ns : List Bool}, Reps C G ds vs → blsOf ds = some ns → vs = ns.map V.bl
  | [], _, _, .nil, e => by cases e; rfl
  | d :: ds, _, ns, .cons a b, e => by
    cases d with
    | bl i =>
      simp only [blsOf] at e
      cases h : blsOf ds with
      | none => rw [h] at e; cases e
      | some ms => rw [h] at e; cases e; rw [bls_of b h, a.bli]; rfl
    | _ => cases e
theorem call_bi {X : Cx} {C : Ct} (hK : X.K = C.K) (hc : X.calm = true) {f : BI} (hf : f = .len ∨ f = .sum ∨ f = .all ∨ f = .any ∨ f = .max ∨ f = .min) : CallR X (.builtin (idB f)) (rBi C f) := by
  intro pins s σ H vs us Q I r ⟨G, ds, t, gh, ps, e, k⟩
  rcases hf with rfl | rfl | rfl | rfl | rfl | rfl
  · -- len
    cases ds with
    | nil => cases e
    | cons d ds =>
      cases ds with
      | nil =>
        obtain ⟨v, rfl, uv⟩ := one_of ps
        cases d with
        | scr ns =>
          cases e
          obtain ⟨p, rfl, h⟩ := uv.scr gh
          rw [← hK] at h
          have := call_len_seq pins s σ H _ us Q I r ⟨p, _, rfl, .inl h, by rw [List.length_map]; exact k.fr gh .int⟩
          exact this
        | lst xs =>
          cases e
          obtain ⟨p, ws, rfl, h, rr⟩ := uv.lst gh
          exact call_len_seq pins s σ H _ us Q I r ⟨p, ws, rfl, .inl (SqL.of h), by rw [← Reps.length rr]; exact k.fr gh .int⟩
        | tup xs =>
          cases e
          obtain ⟨p, ws, rfl, h, g, rr⟩ := uv.tup gh
          exact call_len_seq pins s σ H _ us Q I r ⟨p, ws, rfl, .inr (SqT.of h), by rw [← Reps.length rr]; exact k.fr gh .int⟩
        | str z =>
          simp only [biD] at e
          split at e
          · cases e
            cases uv.str
            exact call_len_str pins s σ H _ us Q I r ⟨z, rfl, by assumption, k.fr gh .int⟩
          · cases e
        | dK ks xs =>
          cases e
          obtain ⟨p, ws, rfl, h, l, rr⟩ := uv.dK gh
          refine call_lenD pins s σ H _ us Q I r ⟨p, _, rfl, h, ?_⟩
          rw [List.length_zip, l, ← Reps.length rr, Nat.min_self]
          exact k.fr gh .int
        | dT ks xs =>
          cases e
          obtain ⟨p, ws, rfl, h, l, rr⟩ := uv.dT gh
          refine call_len_dT pins s σ H _ us Q I r ⟨p, _, rfl, h, ?_⟩
          rw [List.length_zip, l, ← Reps.length rr, Nat.min_self]
          exact k.fr gh .int
        | _ => cases e
      | cons _ _ => cases d <;> cases e
  · -- sum
    cases ds with
    | nil => cases e
    | cons d ds =>
      cases ds with
      | nil =>
        obtain ⟨v, rfl, uv⟩ := one_of ps
        cases d with
        | lst xs =>
          simp only [biD] at e
          cases hn : intsOf xs with
          | none => rw [hn] at e; cases e
          | some ns =>
            rw [hn] at e
            cases e
            obtain ⟨p, ws, rfl, h, rr⟩ := uv.lst gh
            rw [ints_of rr hn] at h
            exact cr_sum hc pins s σ H _ us Q I r ⟨p, ns, rfl, SqL.of h, k.fr gh .int⟩
        | _ => cases e
      | cons _ _ => cases d <;> cases e
  · -- all
    cases ds with
    | nil => cases e
    | cons d ds =>
      cases ds with
      | nil =>
        obtain ⟨v, rfl, uv⟩ := one_of ps
        cases d with
        | lst xs =>
          simp only [biD] at e
          cases hn : blsOf xs with
          | none => rw [hn] at e; cases e
          | some ns =>
            rw [hn] at e
            cases e
            obtain ⟨p, ws, rfl, h, rr⟩ := uv.lst gh
            rw [bls_of rr hn] at h
            exact cr_all hc pins s σ H _ us Q I r ⟨p, ns, rfl, SqL.of h, k.fr gh .bl⟩
        | _ => cases e
      | cons _ _ => cases d <;> cases e
  · -- any
    cases ds with
    | nil => cases e
    | cons d ds =>
      cases ds with
      | nil =>
        obtain ⟨v, rfl, uv⟩ := one_of ps
        cases d with
        | lst xs =>
          simp only [biD] at e
          cases hn : blsOf xs with
          | none => rw [hn] at e; cases e
          | some ns =>
            rw [hn] at e
            cases e
            obtain ⟨p, ws, rfl, h, rr⟩ := uv.lst gh
            rw [bls_of rr hn] at h
            exact cr_any hc pins s σ H _ us Q I r ⟨p, ns, rfl, SqL.of h, k.fr gh .bl⟩
        | _ => cases e
      | cons _ _ => cases d <;> cases e
  · -- max
    cases ds with
    | nil => cases e
    | cons d ds =>
      cases ds with
      | nil => cases d <;> cases e
      | cons d2 ds =>
        cases ds with
        | cons _ _ => cases d <;> cases d2 <;> cases e
        | nil =>
          obtain ⟨v, u, rfl, uv, uu⟩ := two_of ps
          cases d with
          | int i =>
            cases d2 with
            | int j =>
              cases e
              cases uv.int; cases uu.int
              exact call_max2 hc pins s σ H _ us Q I r ⟨i, j, rfl, k.fr gh .int⟩
            | _ => cases e
          | _ => cases d2 <;> cases e
  · -- min
    cases ds with
    | nil => cases e
    | cons d ds =>
      cases ds with
      | nil => cases d <;> cases e
      | cons d2 ds =>
        cases ds with
        | cons _ _ => cases d <;> cases d2 <;> cases e
        | nil =>
          obtain ⟨v, u, rfl, uv, uu⟩ := two_of ps
          cases d with
          | int i =>
            cases d2 with
            | int j =>
              cases e
              cases uv.int; cases uu.int
              exact call_min2 hc pins s σ H _ us Q I r ⟨i, j, rfl, k.fr gh .int⟩
            | _ => cases e
          | _ => cases d2 <;> cases e
theorem call_bt {X : Cx} {C : Ct} (hc : X.calm = true) {f : BI} (hf : f = .list ∨ f = .tuple ∨ f = .int) : CallR X (.type (idT f)) (rBi C f) := by
  intro pins s σ H vs us Q I r ⟨G, ds, t, gh, ps, e, k⟩
  cases ds with
  | nil => rcases hf with rfl | rfl | rfl <;> cases e
  | cons d ds =>
    cases ds with
    | cons _ _ => rcases hf with rfl | rfl | rfl <;> cases d <;> cases e
    | nil =>
      obtain ⟨v, rfl, uv⟩ := one_of ps
      rcases hf with rfl | rfl | rfl
      · cases d with
        | lst xs =>
          cases e
          obtain ⟨p, ws, rfl, h, rr⟩ := uv.lst gh
          exact call_list_of pins s σ H _ us Q I r ⟨p, ws, rfl, .inl (SqL.of h), fun l hl => k.own gh hl (.lst rr)⟩
        | tup xs =>
          cases e
          obtain ⟨p, ws, rfl, h, g, rr⟩ := uv.tup gh
          exact call_list_of pins s σ H _ us Q I r ⟨p, ws, rfl, .inr (SqT.of h), fun l hl => k.own gh hl (.lst rr)⟩
        | _ => cases e
      · cases d with
        | lst xs =>
          cases e
          obtain ⟨p, ws, rfl, h, rr⟩ := uv.lst gh
          exact call_tuple_of pins s σ H _ us Q I r ⟨p, ws, rfl, .inl ⟨SqL.of h, fun l hl => k.tup gh hl rr⟩⟩
        | tup xs =>
          cases e
          obtain ⟨p, ws, rfl, h, g, rr⟩ := uv.tup gh
          exact call_tuple_of pins s σ H _ us Q I r ⟨p, ws, rfl, .inr ⟨SqT.of h, k.fr gh (.tup g rr)⟩⟩
        | _ => cases e
      · cases d with
        | int i =>
          cases e
          cases uv.int
          exact call_int1 pins s σ H _ us Q I r (.inl ⟨i, rfl, k.fr gh .int⟩)
        | bl b =>
          cases e
          cases uv.bl
          exact call_int1 pins s σ H _ us Q I r (.inr ⟨b, rfl, k.fr gh .int⟩)
        | _ => cases e
/-! ### methods of what is built in -/
def rMt (C : Ct) (m : MT) : V → List V → Hp → VK → Prop := fun x vs H Q => ∃ G d ds t, Same G H ∧ Us C G H d x ∧ Paired (Us C G H) ds vs ∧ mtD m d ds = some t ∧ Alc C G H t Q
end FJ

/-! Each form of the small language. -/
namespace FJ
open PySem L2

section imp
variable {X : Cx}
theorem PE.imp {e : Expr} {t t' : TE} (h : PE X e t) (k : ∀ σ H Q, t' σ H Q → t σ H Q) : PE X e t' := ⟨fun pins s σ H Q I q => h.run pins s σ H Q I (k σ H Q q)⟩
theorem PT.imp {e : Expr} {t t' : TT} (h : PT X e t) (k : ∀ σ H Q, t' σ H Q → t σ H Q) : PT X e t' := ⟨fun pins s σ H Q I q => h.run pins s σ H Q I (k σ H Q q)⟩
theorem PW.imp {e : Expr} {t t' : TT} (h : PW X e t) (k : ∀ σ H Q, t' σ H Q → t σ H Q) : PW X e t' := ⟨fun w pins s σ H Q I q => h.run w pins s σ H Q I (k σ H Q q)⟩
theorem PA.imp {e : List Expr} {t t' : TA} (h : PA X e t) (k : ∀ σ H Q, t' σ H Q → t σ H Q) : PA X e t' := ⟨fun p pins s σ H Q I q => h.run p pins s σ H Q I (k σ H Q q)⟩
theorem PO.imp {e : Option Expr} {t t' : TO} (h : PO X e t) (k : ∀ σ H Q, t' σ H Q → t σ H Q) : PO X e t' := ⟨fun pins s σ H Q I q => h.run pins s σ H Q I (k σ H Q q)⟩
theorem PI.imp {tg e : Expr} {t t' : TI} (h : PI X tg e t) (k : ∀ σ H Q, t' σ H Q → t σ H Q) : PI X tg e t' := ⟨fun pins s σ H Q I q => h.run pins s σ H Q I (k σ H Q q)⟩
theorem PG.imp {e : Expr} {t t' : TG} (h : PG X e t) (k : ∀ v σ H Q, t' v σ H Q → t v σ H Q) : PG X e t' := ⟨fun pins s σ H v u Q I r q => h.run pins s σ H v u Q I r (k v σ H Q q)⟩
theorem PS.imp {e : Stmt} {t t' : TS} (h : PS X e t) (k : ∀ D σ H, t' D σ H → t D σ H) : PS X e t' := ⟨fun pins s σ H D I q => h.run pins s σ H D I (k D σ H q)⟩
theorem PSs.imp {e : List Stmt} {t t' : TS} (h : PSs X e t) (k : ∀ D σ H, t' D σ H → t D σ H) : PSs X e t' := ⟨fun pins s σ H D I q => h.run pins s σ H D I (k D σ H q)⟩
/-- one of two ways to read it -/
theorem PE.or' {e : Expr} {t t' : TE} (h : PE X e t) (h' : PE X e t') : PE X e (fun σ H Q => t σ H Q ∨ t' σ H Q) := ⟨fun pins s σ H Q I q => q.elim (h.run pins s σ H Q I) (h'.run pins s σ H Q I)⟩
theorem PI.or' {tg e : Expr} {t t' : TI} (h : PI X tg e t) (h' : PI X tg e t') : PI X tg e (fun σ H Q => t σ H Q ∨ t' σ H Q) := ⟨fun pins s σ H Q I q => q.elim (h.run pins s σ H Q I) (h'.run pins s σ H Q I)⟩
theorem PE.any {ι : Sort _} {e : Expr} {t : ι → TE} (h : ∀ i, PE X e (t i)) : PE X e (fun σ H Q => ∃ i, t i σ H Q) := ⟨fun pins s σ H Q I ⟨i, q⟩ => (h i).run pins s σ H Q I q⟩
end imp

section
variable {C : Ct} {G H G' H' : Hp} {P P' : Nat → Addr → Prop} {r r' : Env} {σ σ' : St} {A B : Addr → Prop} {x : Val} {v : V} {t : T} {d : D} {Q K : VK} {e : E}
theorem R.use_ok {p : Bool} {q : R} {k : D → Env → R} {y : Val} (h : q.use p k = .ok y r') : ∃ x r1, q = .ok x r1 ∧ k x.toD (useE p x r1) = .ok y r' := by
  cases q with
  | ok x r1 => exact ⟨x, r1, rfl, h⟩
  | stuck => cases h
theorem R.look_ok {p : Bool} {q : R} {k : D → Env → R} {y : Val} (h : q.look p k = .ok y r') : ∃ x r1, q = .ok x r1 ∧ k x.toD (lookE p x r1) = .ok y r' := by
  cases q with
  | ok x r1 => exact ⟨x, r1, rfl, h⟩
  | stuck => cases h
theorem R.tru_ok {q : R} {b : Bool} (h : q.tru = some (b, r')) : ∃ x r1, q = .ok x r1 ∧ truD x.toD = some b ∧ r' = lookE true x r1 := by
  cases q with
  | stuck => cases h
  | ok x r1 =>
    have h' : (match truD x.toD with | some b => some (b, lookE true x r1) | none => none) = some (b, r') := h
    cases ht : truD x.toD with
    | none => rw [ht] at h'; cases h'
    | some c =>
      rw [ht] at h'
      cases h'
      exact ⟨x, r1, rfl, ht, rfl⟩
theorem R.tru_of {x : Val} {b : Bool} (h : truD x.toD = some b) : (R.ok x r).tru = some (b, lookE true x r) := by
  unfold R.tru
  simp only [h]
theorem ofT_ok {o : Option T} {y : Val} (h : ofT o r = .ok y r') : ∃ t, o = some t ∧ y = .v t ∧ r' = r := by
  cases o with
  | none => cases h
  | some t => cases h; exact ⟨t, rfl, rfl, rfl⟩
theorem ofD_ok {o : Option D} {y : Val} (h : ofD o r = .ok y r') : ∃ t, o = some t ∧ y = .v (.fr t) ∧ r' = r := by
  cases o with
  | none => cases h
  | some t => cases h; exact ⟨t, rfl, rfl, rfl⟩
theorem andT {a b : Bool} (h : (a && b) = true) : a = true ∧ b = true := by simpa using h
/-- the end with a value that stands still -/
theorem Post.fr {G0 H0 : Hp} {P0 : Nat → Addr → Prop} {pu : Bool} (k : Post C G0 H0 P0 r σ pu (.v (.fr d)) Q) (st : Sst C G H P r σ) (s : Stp G0 H0 P0 G H P) (hp : pu = true → Same H0 H) (h : Rep C G d v) : Q v H :=
  k v G H P (fun _ => False) st s (Res.fr h) (fun _ z => z.elim) hp
theorem tE_settle (st : Sst C G H P r σ) (h : ev e r = .ok x r')
    (k : ∀ v G1 P1 H1, Sst C G1 H1 P1 (useE false x r') σ → Stp G H P G1 H1 P1 → Rep C G1 x.toD v → (e.pu = true → Same H H1) → K v H1) : tE C e σ H K :=
  tE_at st h fun v G' H' P' A st' s' res hA hp => by
    obtain ⟨G1, P1, st1, s1, rp⟩ := settle_ok st' s' res hA
    exact k v G1 P1 H' st1 s1 rp hp
theorem tE_use (p : Bool) (st : Sst C G H P r σ) (h : ev e r = .ok x r')
    (k : ∀ v G1 H1 P1, Sst C G1 H1 P1 (useE p x r') σ → Stp G H P G1 H1 P1 → (∀ G2 H2 P2, Stp G1 H1 P1 G2 H2 P2 → (p = true → Same H1 H2) → Us C G2 H2 x.toD v) → (e.pu = true → Same H H1) → K v H1) : tE C e σ H K :=
  tE_at st h fun v G' H' P' A st' s' res hA hp => by
    obtain ⟨G1, P1, st1, s1, u⟩ := use_ok p st' s' res hA
    exact k v G1 H' P1 st1 s1 u hp
theorem tE_look (p : Bool) (st : Sst C G H P r σ) (h : ev e r = .ok x r')
    (k : ∀ v G1 H1 P1, Sst C G1 H1 P1 (lookE p x r') σ → Stp G H P G1 H1 P1 → (∀ G2 H2 P2, Stp G1 H1 P1 G2 H2 P2 → Same G2 H2 → (p = true → Same H1 H2) → Rep C H2 x.toD v) → (e.pu = true → Same H H1) → K v H1) : tE C e σ H K :=
  tE_at st h fun v G' H' P' A st' s' res hA hp => by
    obtain ⟨G1, P1, st1, s1, u⟩ := look_ok p st' s' res hA
    exact k v G1 H' P1 st1 s1 u hp
end

theorem Post.step {C : Ct} {G H G1 H1 : Hp} {P P1 : Nat → Addr → Prop} {r' : Env} {σ : St} {q pq : Bool} {y : Val} {Q : VK} (k : Post C G H P r' σ pq y Q) (s1 : Stp G H P G1 H1 P1) (hs : pq = true → Same H H1) (hq : pq = true → q = true) : Post C G1 H1 P1 r' σ q y Q :=
  fun v G' H' P' A st' s' res hA hp => k v G' H' P' A st' (s1.trans s') res (fun a ha => (hA a ha).elim (fun ⟨j, hj⟩ => s1.pp j a hj) fun z => .inr (s1.ld a z)) fun h => (hs h).trans (hp (hq h))

/-! ### readings -/
def tT (C : Ct) (e : E) : TT := fun σ H Q => ∃ G P r b r', Sst C G H P r σ ∧ (ev e r).tru = some (b, r') ∧ ∀ G' H' P', Sst C G' H' P' r' σ → Stp G H P G' H' P' → (e.pu = true → Same H H') → Q b H'
def tEs (C : Ct) (es : Es) : TA := fun σ H Q => ∃ G P r ds r', Sst C G H P r σ ∧ evs es r = .ok ds r' ∧ ∀ vs G' H' P', Sst C G' H' P' r' σ → Stp G H P G' H' P' → Reps C G' ds vs → (es.pu = true → Same H H') → Q vs H'
def tEu (C : Ct) (es : Es) : TA := fun σ H Q => ∃ G P r ds r', Sst C G H P r σ ∧ evu es r = .ok ds r' ∧ ∀ vs G' H' P', Sst C G' H' P' r' σ → Stp G H P G' H' P' → Paired (Us C G' H') ds vs → (es.pu = true → Same H H') → Q vs H'
def tO (C : Ct) (e : Oe) : TO := fun σ H Q => ∃ G P r o r', Sst C G H P r σ ∧ evo e r = some (o, r') ∧ ∀ G' H' P', Sst C G' H' P' r' σ → Stp G H P G' H' P' → (e.pu = true → Same H H') → Q o H'

section
variable {X : Cx} {C : Ct} {a b c : Expr} {ea eb ec : E} {pos : Pos}
theorem ge_var {i : Nat} {x : Str} (hN : X.N[i]? = some x) (hv : Vis X.env.scope x) (hd : (x == ("__debug__" : Str)) = false) (hcd : (x == ("__classdict__" : Str)) = false) : PE X (.Name x pos) (tE C (.var i)) := by
  refine PE.imp (pe_var hN hv hd hcd) fun σ H Q ⟨G, P, r, y, r', st, e, k⟩ => ?_
  simp only [ev] at e
  split at e
  · rename_i d hd
    cases e
    obtain ⟨v, h1, h2⟩ := st.sl i _ hd
    refine ⟨v, h1, ?_⟩
    cases h2 with
    | fr rp n => exact k.fr st (Stp.refl ..) (fun _ => Same.refl _) rp
  · rename_i t _ ht
    cases e
    obtain ⟨v, h1, h2⟩ := st.sl i _ ht
    exact ⟨v, h1, k v G H P (fun _ => False) st (Stp.refl ..) ⟨fun _ z => z, _, h2, fun a h => h⟩ (fun _ z => z.elim) fun _ => Same.refl _⟩
  · cases e
theorem ge_cst {e : Expr} {d : D} {v : V} (h : PE X e (tC v)) (rp : ∀ σ H G P r, Sst C G H P r σ → Rep C G d v) : PE X e (tE C (.cst d)) := by
  refine PE.imp h fun σ H Q ⟨G, P, r, y, r', st, e, k⟩ => ?_
  simp only [ev] at e
  cases e
  exact k.fr st (Stp.refl ..) (fun _ => Same.refl _) (rp σ H G P r st)
theorem ge_neg (ha : PE X a (tE C ea)) : PE X (.UnaryOp .USub a pos) (tE C (.neg ea)) := by
  refine PE.imp (pe_un un_neg ha) fun σ H Q ⟨G, P, r, y, r', st, e, k⟩ => ?_
  simp only [ev] at e
  obtain ⟨x1, r1, h1, e⟩ := R.use_ok e
  refine tE_use true st h1 fun v1 G1 H1 P1 st1 s1 u1 p1 => ?_
  split at e
  · rename_i i hi
    cases e
    have u := u1 _ _ _ (Stp.refl ..) fun _ => Same.refl _
    rw [hi] at u
    cases u.int
    exact ⟨i, rfl, k.fr st1 s1 p1 .int⟩
  · cases e
theorem ge_bin (hK : X.K = C.K) {o : Bop} (ha : PE X a (tE C ea)) (hb : PE X b (tE C eb)) : PE X (.BinOp a (opOf o) b pos) (tE C (.bin o ea eb)) := by
  refine PE.imp (pe_op (op_bin hK o) ha hb) fun σ H Q ⟨G, P, r, y, r', st, e, k⟩ => ?_
  simp only [ev] at e
  obtain ⟨x1, r1, h1, e⟩ := R.use_ok e
  obtain ⟨x2, r2, h2, e⟩ := R.use_ok e
  obtain ⟨t, ht, rfl, rfl⟩ := ofT_ok e
  refine tE_use eb.pu st h1 fun v1 G1 H1 P1 st1 s1 u1 p1 => ?_
  refine tE_use true st1 h2 fun v2 G2 H2 P2 st2 s2 u2 p2 => ?_
  exact ⟨G2, _, _, t, st2.gh, u1 _ _ _ s2 p2, u2 _ _ _ (Stp.refl ..) fun _ => Same.refl _, ht, k.alc st2 (s1.trans s2) fun h => (p1 (andT h).1).trans (p2 (andT h).2)⟩
theorem cmp_read {o : Cop} {σ : St} {H : Hp} {Q : VK} (q : tE C (.cmp o ea eb) σ H Q) : tOp (rC C o) (tE C ea) (tE C eb) σ H Q := by
  obtain ⟨G, P, r, y, r', st, e, k⟩ := q
  simp only [ev] at e
  obtain ⟨x1, r1, h1, e⟩ := R.look_ok e
  obtain ⟨x2, r2, h2, e⟩ := R.look_ok e
  obtain ⟨t, ht, rfl, rfl⟩ := ofD_ok e
  refine tE_look eb.pu st h1 fun v1 G1 H1 P1 st1 s1 u1 p1 => ?_
  refine tE_look true st1 h2 fun v2 G2 H2 P2 st2 s2 u2 p2 => ?_
  cases hc : cmpD o x1.toD x2.toD with
  | none => rw [hc] at ht; cases ht
  | some b =>
    rw [hc] at ht
    cases ht
    exact ⟨_, _, b, u1 _ _ _ s2 st2.gh p2, u2 _ _ _ (Stp.refl ..) st2.gh fun _ => Same.refl _, hc, k.fr st2 (s1.trans s2) (fun h => (p1 (andT h).1).trans (p2 (andT h).2)) .bl⟩
theorem ge_cmp (hu : X.A.units + 64 < cLine) {o : CmpOp} (ha : PE X a (tE C ea)) (hb : PE X b (tE C eb)) (hm : behindInMarks o b = false) : PE X (.Compare a [o] [b] pos) (tE C (.cmp (cmpOp o) ea eb)) :=
  PE.imp (pe_cmpR (op_cmp (C := C) hu o) ha hb hm) fun σ H Q q => cmp_read q
theorem chain_read {o u : Cop} {σ : St} {H : Hp} {Q : VK} (q : tE C (.chain o u ea eb ec) σ H Q) : tChain (rC C o) (rC C u) (tE C ea) (tE C eb) (tE C ec) σ H Q := by
  obtain ⟨G, P, r, y, r', st, e, k⟩ := q
  simp only [ev] at e
  obtain ⟨x1, r1, h1, e⟩ := R.look_ok e
  obtain ⟨x2, r2, h2, e⟩ := R.look_ok e
  refine tE_look eb.pu st h1 fun v1 G1 H1 P1 st1 s1 u1 p1 => ?_
  refine tE_look ec.pu st1 h2 fun v2 G2 H2 P2 st2 s2 u2 p2 => ?_
  cases hc : cmpD o x1.toD x2.toD with
  | none => rw [hc] at e; cases e
  | some b =>
    rw [hc] at e
    refine ⟨_, _, b, u1 _ _ _ s2 st2.gh p2, u2 _ _ _ (Stp.refl ..) st2.gh fun _ => Same.refl _, hc, b, rfl, ?_⟩
    cases b with
    | false =>
      cases e
      exact k.fr st2 (s1.trans s2) (fun h => (p1 (andT h).1).trans (p2 (andT (andT h).2).1)) .bl
    | true =>
      obtain ⟨x3, r3, h3, e⟩ := R.look_ok e
      obtain ⟨t, ht, rfl, rfl⟩ := ofD_ok e
      show tE C ec σ H2 _
      refine tE_look true st2 h3 fun v3 G3 H3 P3 st3 s3 u3 p3 => ?_
      cases hc3 : cmpD u x2.toD x3.toD with
      | none => rw [hc3] at ht; cases ht
      | some b =>
        rw [hc3] at ht
        cases ht
        exact ⟨_, _, b, u2 _ _ _ s3 st3.gh p3, u3 _ _ _ (Stp.refl ..) st3.gh fun _ => Same.refl _, hc3, k.fr st3 ((s1.trans s2).trans s3) (fun h => ((p1 (andT h).1).trans (p2 (andT (andT h).2).1)).trans (p3 (andT (andT h).2).2)) .bl⟩
theorem marks_no {o u : CmpOp} {b d : Expr} (h1 : isSet b = false) (h2 : isSet d = false) : lastMarks [o, u] [b, d] = false := by
  show behindInMarks u d = false
  cases d <;> first | (simp [isSet] at h2; done) | (cases u <;> rfl)
theorem ge_chain (hu : X.A.units + 64 < cLine) {o u : CmpOp} (ha : PE X a (tE C ea)) (hb : PE X b (tE C eb)) (hc : PE X c (tE C ec)) (h1 : isSet b = false) (h2 : isSet c = false) : PE X (.Compare a [o, u] [b, c] pos) (tE C (.chain (cmpOp o) (cmpOp u) ea eb ec)) :=
  PE.imp (pe_chain (op_cmp (C := C) hu o) (op_cmp (C := C) hu u) ha hb hc (marks_no h1 h2)) fun σ H Q q => chain_read q
variable {rest : List Expr}
theorem ge_and (ha : PE X a (tE C ea)) (hb : PE X (.BoolOp .And (b :: rest) pos) (tE C eb)) : PE X (.BoolOp .And (a :: b :: rest) pos) (tE C (.and ea eb)) := by
  refine PE.imp (pe_and ha hb) fun σ H Q ⟨G, P, r, y, r', st, e, k⟩ => ?_
  simp only [ev] at e
  obtain ⟨x1, r1, h1, e⟩ := R.look_ok e
  refine tE_look true st h1 fun v1 G1 H1 P1 st1 s1 u1 p1 => ?_
  have u := u1 _ _ _ (Stp.refl ..) st1.gh fun _ => Same.refl _
  split at e
  · rename_i hx
    rw [hx] at u
    cases u.bli
    refine ⟨true, rfl, ?_⟩
    show tE C eb σ H1 Q
    exact ⟨G1, P1, _, y, r', st1, e, k.step s1 (fun h => p1 (andT h).1) fun h => (andT h).2⟩
  · rename_i hx
    rw [hx] at u
    cases u.bli
    cases e
    refine ⟨false, rfl, ?_⟩
    show Q (.bl false) H1
    exact k.fr st1 s1 (fun h => p1 (andT h).1) .bl
  · cases e
theorem ge_or (ha : PE X a (tE C ea)) (hb : PE X (.BoolOp .Or (b :: rest) pos) (tE C eb)) : PE X (.BoolOp .Or (a :: b :: rest) pos) (tE C (.or ea eb)) := by
  refine PE.imp (pe_or ha hb) fun σ H Q ⟨G, P, r, y, r', st, e, k⟩ => ?_
  simp only [ev] at e
  obtain ⟨x1, r1, h1, e⟩ := R.look_ok e
  refine tE_look true st h1 fun v1 G1 H1 P1 st1 s1 u1 p1 => ?_
  have u := u1 _ _ _ (Stp.refl ..) st1.gh fun _ => Same.refl _
  split at e
  · rename_i hx
    rw [hx] at u
    cases u.bli
    refine ⟨false, rfl, ?_⟩
    show tE C eb σ H1 Q
    exact ⟨G1, P1, _, y, r', st1, e, k.step s1 (fun h => p1 (andT h).1) fun h => (andT h).2⟩
  · rename_i hx
    rw [hx] at u
    cases u.bli
    cases e
    refine ⟨true, rfl, ?_⟩
    show Q (.bl true) H1
    exact k.fr st1 s1 (fun h => p1 (andT h).1) .bl
  · cases e
/-- truth of what is looked at -/
theorem truV_of {K : PySem.W.Frag} {H : Hp} {d : D} {v : V} {k : Bool} (rp : Rep C H d v) (h : truD d = some k) : TruV K v H k := by
  cases rp with
  | non => cases h; rfl
  | bl => cases h; rfl
  | int => cases h; rfl
  | lst hp r =>
    cases h
    refine .inl ⟨_, SqL.of hp, ?_⟩
    cases r <;> rfl
  | _ => cases h
theorem isTrue_pl (h : isTest a = false) : ∀ whole, isTrue a X.env whole = (do let v ← whole; standAt a.pos; holding [v] (truthy v)) := by
  intro whole
  cases a with
  | UnaryOp op _ _ => cases op <;> first | rfl | (simp [isTest] at h)
  | BoolOp => simp [isTest] at h
  | IfExp => simp [isTest] at h
  | Compare => simp [isTest] at h
  | _ => rfl
theorem tru_read {K : PySem.W.Frag} {σ : St} {H : Hp} {Q : Bool → Hp → Prop} (q : tT C ea σ H Q) : tE C ea σ H fun x H' => ∃ k, TruV K x H' k ∧ Q k H' := by
  obtain ⟨G, P, r, y, r', st, e, k⟩ := q
  obtain ⟨x, r1, h1, h2, rfl⟩ := R.tru_ok e
  exact tE_look true st h1 fun v1 G1 H1 P1 st1 s1 u1 p1 => ⟨y, truV_of (u1 _ _ _ (Stp.refl ..) st1.gh fun _ => Same.refl _) h2, k G1 H1 P1 st1 s1 p1⟩
theorem gt_val (ha : PE X a (tE C ea)) (h : isTest a = false) : PT X a (tT C ea) :=
  PT.imp (pt_truth ha (isTrue_pl h)) fun σ H Q q => tru_read q
theorem bl_read {σ : St} {H : Hp} {Q : Bool → Hp → Prop} (hb : ∀ r x r', ev ea r = .ok x r' → ∃ k, x = .v (.fr (.bl k))) (q : tT C ea σ H Q) : tE C ea σ H fun x H' => ∃ k, x = .bl k ∧ Q k H' := by
  obtain ⟨G, P, r, y, r', st, e, k⟩ := q
  obtain ⟨x, r1, h1, h2, rfl⟩ := R.tru_ok e
  obtain ⟨kk, rfl⟩ := hb _ _ _ h1
  cases h2
  exact tE_look true st h1 fun v1 G1 H1 P1 st1 s1 u1 p1 => ⟨_, (u1 _ _ _ (Stp.refl ..) st1.gh fun _ => Same.refl _).bli, k G1 H1 P1 st1 s1 p1⟩
theorem cmp_bl {o : Cop} {r r' : Env} {x : Val} (e : ev (.cmp o ea eb) r = .ok x r') : ∃ k, x = .v (.fr (.bl k)) := by
  simp only [ev] at e
  obtain ⟨x1, r1, h1, e⟩ := R.look_ok e
  obtain ⟨x2, r2, h2, e⟩ := R.look_ok e
  obtain ⟨t, ht, rfl, rfl⟩ := ofD_ok e
  cases hc : cmpD o x1.toD x2.toD with
  | none => rw [hc] at ht; cases ht
  | some b => rw [hc] at ht; cases ht; exact ⟨b, rfl⟩
theorem chain_bl {o u : Cop} {r r' : Env} {x : Val} (e : ev (.chain o u ea eb ec) r = .ok x r') : ∃ k, x = .v (.fr (.bl k)) := by
  simp only [ev] at e
  obtain ⟨x1, r1, h1, e⟩ := R.look_ok e
  obtain ⟨x2, r2, h2, e⟩ := R.look_ok e
  split at e
  · obtain ⟨x3, r3, h3, e⟩ := R.look_ok e
    obtain ⟨t, ht, rfl, rfl⟩ := ofD_ok e
    cases hc : cmpD u x2.toD x3.toD with
    | none => rw [hc] at ht; cases ht
    | some b => rw [hc] at ht; cases ht; exact ⟨b, rfl⟩
  · cases e; exact ⟨false, rfl⟩
  · cases e
theorem gt_cmp (hu : X.A.units + 64 < cLine) {o : CmpOp} (ha : PE X a (tE C ea)) (hb : PE X b (tE C eb)) (hm : behindInMarks o b = false) : PT X (.Compare a [o] [b] pos) (tT C (.cmp (cmpOp o) ea eb)) :=
  PT.imp (pt_cmpR (op_cmp (C := C) hu o) ha hb hm) fun σ H Q q => cmp_read (bl_read (fun _ _ _ h => cmp_bl h) q)
theorem gt_chain (hu : X.A.units + 64 < cLine) {o u : CmpOp} (ha : PE X a (tE C ea)) (hb : PE X b (tE C eb)) (hc : PE X c (tE C ec)) (h1 : isSet b = false) (h2 : isSet c = false) : PT X (.Compare a [o, u] [b, c] pos) (tT C (.chain (cmpOp o) (cmpOp u) ea eb ec)) :=
  PT.imp (pt_chain (op_cmp (C := C) hu o) (op_cmp (C := C) hu u) ha hb hc (marks_no h1 h2)) fun σ H Q q => chain_read (bl_read (fun _ _ _ h => chain_bl h) q)
theorem gt_not (ha : PT X a (tT C ea)) : PT X (.UnaryOp .Not a pos) (tT C (.not ea)) := by
  refine PT.imp (pt_not ha) fun σ H Q ⟨G, P, r, y, r', st, e, k⟩ => ?_
  obtain ⟨x, r1, h1, h2, rfl⟩ := R.tru_ok e
  simp only [ev] at h1
  split at h1
  · rename_i b r2 h3
    cases h1
    cases h2
    exact ⟨G, P, r, b, _, st, h3, fun G' H' P' st' s' p' => k G' H' P' st' s' p'⟩
  · cases h1
theorem ge_not (ha : PE X a (tE C ea)) : PE X (.UnaryOp .Not a pos) (tE C (.not ea)) := by
  refine PE.imp (pe_notT ha) fun σ H Q ⟨G, P, r, y, r', st, e, k⟩ => ?_
  simp only [ev] at e
  split at e
  · rename_i b r2 h3
    cases e
    exact tru_read ⟨G, P, r, b, _, st, h3, fun G' H' P' st' s' p' => k.fr st' s' p' .bl⟩
  · cases e
theorem gw_and1 (ha : PT X a (tT C ea)) : PW X (.BoolOp .And [a] pos) (tT C ea) := pw_and1 ha
theorem gw_or1 (ha : PT X a (tT C ea)) : PW X (.BoolOp .Or [a] pos) (tT C ea) := pw_or1 ha
theorem gw_and (ha : PT X a (tT C ea)) (hb : PW X (.BoolOp .And (b :: rest) pos) (tT C eb)) : PW X (.BoolOp .And (a :: b :: rest) pos) (tT C (.and ea eb)) := by
  refine PW.imp (pw_and ha hb) fun σ H Q ⟨G, P, r, y, r', st, e, k⟩ => ?_
  obtain ⟨x, r1, h1, h2, hr⟩ := R.tru_ok e
  simp only [ev] at h1
  obtain ⟨x1, r2, h3, h1⟩ := R.look_ok h1
  split at h1
  · rename_i hx
    exact ⟨G, P, r, true, lookE true x1 r2, st, by rw [h3]; exact R.tru_of (by rw [hx]; rfl), fun G' H' P' st' s' p' => ⟨G', P', _, y, r', st', by rw [h1, hr]; exact R.tru_of h2, fun G2 H2 P2 st2 s2 p2 => k G2 H2 P2 st2 (s'.trans s2) fun h => (p' (andT h).1).trans (p2 (andT h).2)⟩⟩
  · rename_i hx
    cases h1
    cases h2
    subst hr
    exact ⟨G, P, r, false, lookE true x1 r2, st, by rw [h3]; exact R.tru_of (by rw [hx]; rfl), fun G' H' P' st' s' p' => k G' H' P' st' s' fun h => p' (andT h).1⟩
  · cases h1
theorem gw_or (ha : PT X a (tT C ea)) (hb : PW X (.BoolOp .Or (b :: rest) pos) (tT C eb)) : PW X (.BoolOp .Or (a :: b :: rest) pos) (tT C (.or ea eb)) := by
  refine PW.imp (pw_or ha hb) fun σ H Q ⟨G, P, r, y, r', st, e, k⟩ => ?_
  obtain ⟨x, r1, h1, h2, hr⟩ := R.tru_ok e
  simp only [ev] at h1
  obtain ⟨x1, r2, h3, h1⟩ := R.look_ok h1
  split at h1
  · rename_i hx
    exact ⟨G, P, r, false, lookE true x1 r2, st, by rw [h3]; exact R.tru_of (by rw [hx]; rfl), fun G' H' P' st' s' p' => ⟨G', P', _, y, r', st', by rw [h1, hr]; exact R.tru_of h2, fun G2 H2 P2 st2 s2 p2 => k G2 H2 P2 st2 (s'.trans s2) fun h => (p' (andT h).1).trans (p2 (andT h).2)⟩⟩
  · rename_i hx
    cases h1
    cases h2
    subst hr
    exact ⟨G, P, r, true, lookE true x1 r2, st, by rw [h3]; exact R.tru_of (by rw [hx]; rfl), fun G' H' P' st' s' p' => k G' H' P' st' s' fun h => p' (andT h).1⟩
  · cases h1
theorem ge_ite (hc : PT X c (tT C ec)) (ha : PE X a (tE C ea)) (hb : PE X b (tE C eb)) : PE X (.IfExp c a b pos) (tE C (.ite ec ea eb)) := by
  refine PE.imp (pe_ifExp hc ha hb) fun σ H Q ⟨G, P, r, y, r', st, e, k⟩ => ?_
  simp only [ev] at e
  split at e
  · rename_i r1 h1
    exact ⟨G, P, r, true, r1, st, h1, fun G1 H1 P1 st1 s1 p1 => ⟨G1, P1, r1, y, r', st1, e, k.step s1 (fun h => p1 (andT h).1) fun h => (andT (andT h).2).1⟩⟩
  · rename_i r1 h1
    exact ⟨G, P, r, false, r1, st, h1, fun G1 H1 P1 st1 s1 p1 => ⟨G1, P1, r1, y, r', st1, e, k.step s1 (fun h => p1 (andT h).1) fun h => (andT (andT h).2).2⟩⟩
  · cases e

/-! ### argument lists, displays, slices -/
variable {e : Expr} {es : List Expr} {ee : E} {ees : Es}
theorem star_cons (h : notStar e = true) : starEach (e :: es) X.env = (false, eval e X.env) :: starEach es X.env := by
  cases e <;> first | rfl | (simp [notStar] at h)
theorem ga_nil : PA X [] (tEs C .nil) := by
  refine PA.imp pa_nil fun σ H Q ⟨G, P, r, ds, r', st, e, k⟩ => ?_
  simp only [evs] at e
  cases e
  exact k [] G H P st (Stp.refl ..) .nil fun _ => Same.refl _
theorem ga_cons (hn : notStar e = true) (he : PE X e (tE C ee)) (hs : PA X es (tEs C ees)) : PA X (e :: es) (tEs C (.cons ee ees)) := by
  refine PA.imp (pa_cons he hs (star_cons hn)) fun σ H Q ⟨G, P, r, ds, r', st, e, k⟩ => ?_
  simp only [evs] at e
  split at e
  · rename_i x r1 h1
    split at e
    · rename_i ds2 r2 h2
      cases e
      exact tE_settle st h1 fun v1 G1 P1 H1 st1 s1 rp p1 => ⟨G1, P1, _, ds2, _, st1, h2, fun vs G2 H2 P2 st2 s2 rs p2 => k (v1 :: vs) G2 H2 P2 st2 (s1.trans s2) (.cons (Rep.mono s2.gg rp) rs) fun h => (p1 (andT h).1).trans (p2 (andT h).2)⟩
    · cases e
  · cases e
theorem gu_nil : PA X [] (tEu C .nil) := by
  refine PA.imp pa_nil fun σ H Q ⟨G, P, r, ds, r', st, e, k⟩ => ?_
  simp only [evu] at e
  cases e
  exact k [] G H P st (Stp.refl ..) .nil fun _ => Same.refl _
theorem gu_cons (hn : notStar e = true) (he : PE X e (tE C ee)) (hs : PA X es (tEu C ees)) : PA X (e :: es) (tEu C (.cons ee ees)) := by
  refine PA.imp (pa_cons he hs (star_cons hn)) fun σ H Q ⟨G, P, r, ds, r', st, e, k⟩ => ?_
  simp only [evu] at e
  split at e
  · rename_i x r1 h1
    split at e
    · rename_i ds2 r2 h2
      cases e
      exact tE_use ees.pu st h1 fun v1 G1 H1 P1 st1 s1 u1 p1 => ⟨G1, P1, _, ds2, _, st1, h2, fun vs G2 H2 P2 st2 s2 rs p2 => k (v1 :: vs) G2 H2 P2 st2 (s1.trans s2) (.cons (u1 _ _ _ s2 p2) rs) fun h => (p1 (andT h).1).trans (p2 (andT h).2)⟩
    · cases e
  · cases e
theorem ge_tup {k : Nat} (hs : PA X es (tEs C ees)) : PE X (.Tuple es k pos) (tE C (.tup ees)) := by
  refine PE.imp (pe_tup hs) fun σ H Q ⟨G, P, r, y, r', st, e, k⟩ => ?_
  simp only [ev] at e
  split at e
  · rename_i ds r1 h1
    split at e
    · rename_i hl
      cases e
      exact ⟨G, P, r, ds, _, st, h1, fun vs G1 H1 P1 st1 s1 rs p1 => ⟨by rw [← Reps.length rs]; exact hl, fun p hp => (k.alc st1 s1 p1).tup st1.gh hp rs⟩⟩
    · cases e
  · cases e
theorem ge_lst (hs : PA X es (tEs C ees)) : PE X (.List es pos) (tE C (.lst ees)) := by
  refine PE.imp (pe_lst hs) fun σ H Q ⟨G, P, r, y, r', st, e, k⟩ => ?_
  simp only [ev] at e
  split at e
  · rename_i ds r1 h1
    split at e
    · rename_i hl
      cases e
      exact ⟨G, P, r, ds, _, st, h1, fun vs G1 H1 P1 st1 s1 rs p1 => ⟨by rw [← Reps.length rs]; exact hl, fun p hp => (k.alc st1 s1 p1).own st1.gh hp (.lst rs)⟩⟩
    · cases e
  · cases e
theorem ge_dnew (t : Bool) : PE X (.Dict [] [] pos) (tE C (.dnew t)) := by
  cases t with
  | false =>
    refine PE.imp pe_dnewK fun σ H Q ⟨G, P, r, y, r', st, e, k⟩ => ?_
    simp only [ev] at e
    cases e
    exact fun p hp => (k.alc st (Stp.refl ..) fun _ => Same.refl _).own st.gh hp (.dK (ks := []) rfl .nil)
  | true =>
    refine PE.imp pe_dnewT fun σ H Q ⟨G, P, r, y, r', st, e, k⟩ => ?_
    simp only [ev] at e
    cases e
    exact fun p hp => (k.alc st (Stp.refl ..) fun _ => Same.refl _).own st.gh hp (.dT (ks := []) rfl .nil)
theorem go_no : PO X none (tO C .no) := by
  refine PO.imp po_none fun σ H Q ⟨G, P, r, o, r', st, e, k⟩ => ?_
  simp only [evo] at e
  cases e
  exact k G H P st (Stp.refl ..) fun _ => Same.refl _
theorem go_so (he : PE X e (tE C ee)) : PO X (some e) (tO C (.so ee)) := by
  refine PO.imp (po_some he) fun σ H Q ⟨G, P, r, o, r', st, e, k⟩ => ?_
  simp only [evo] at e
  split at e
  · rename_i x r1 h1
    split at e
    · rename_i i hi
      cases e
      refine tE_look true st h1 fun v1 G1 H1 P1 st1 s1 u1 p1 => ?_
      have u := u1 _ _ _ (Stp.refl ..) st1.gh fun _ => Same.refl _
      rw [hi] at u
      exact ⟨i, u.inti, k G1 H1 P1 st1 s1 p1⟩
    · cases e
  · cases e
theorem ge_sli (hK : X.K = C.K) {lo hi : Option Expr} {olo ohi : Oe} {p2 : Pos} (ha : PE X a (tE C ea)) (hl : PO X lo (tO C olo)) (hh : PO X hi (tO C ohi)) : PE X (.Subscript a (.Slice lo hi none p2) pos) (tE C (.sli ea olo ohi)) := by
  refine PE.imp (pe_slice (sl_any hK) ha hl hh) fun σ H Q ⟨G, P, r, y, r', st, e, k⟩ => ?_
  simp only [ev] at e
  obtain ⟨x1, r1, h1, e⟩ := R.use_ok e
  split at e
  · rename_i l r2 h2
    split at e
    · rename_i h r3 h3
      obtain ⟨t, ht, rfl, rfl⟩ := ofT_ok e
      exact tE_use (olo.pu && ohi.pu) st h1 fun v1 G1 H1 P1 st1 s1 u1 p1 => ⟨G1, P1, _, l, r2, st1, h2, fun G2 H2 P2 st2 s2 p2 => ⟨G2, P2, r2, h, _, st2, h3, fun G3 H3 P3 st3 s3 p3 =>
        ⟨G3, _, t, st3.gh, u1 _ _ _ (s2.trans s3) fun h => (p2 (andT h).1).trans (p3 (andT h).2), ht, k.alc st3 ((s1.trans s2).trans s3) fun h => ((p1 (andT h).1).trans (p2 (andT (andT h).2).1)).trans (p3 (andT (andT h).2).2)⟩⟩⟩
    · cases e
  · cases e
end
end FJ

/-! Items, isinstance, built-in functions, targets, what is walked. -/
namespace FJ
open PySem L2

section
variable {X : Cx} {C : Ct} {G H : Hp} {a b c : Expr} {ea eb ec : E} {pos p : Pos} {v : V}
theorem look2_get {κ : Type} [DecidableEq κ] {k : κ} {d : D} : ∀ {ks : List κ} {ds : List D} {vs : List V}, look2 k ks ds = some d → Reps C G ds vs → ∃ v, valV (ks.zip vs) k = some v ∧ Rep C G d v
  | [], _, _, h, _ => by simp [look2] at h
  | _ :: _, _, _, h, .nil => by simp [look2] at h
  | q :: ks, d1 :: ds, v1 :: vs, h, .cons r1 r2 => by
    simp only [look2] at h
    unfold valV
    rw [List.zip_cons_cons, List.find?_cons]
    by_cases e : q = k
    · rw [if_pos e] at h
      cases h
      simp only [e, decide_true]
      exact ⟨v1, rfl, r1⟩
    · rw [if_neg e] at h
      simp only [e, decide_false]
      exact look2_get h r2
theorem key_of {d : D} {k : Key} (h : keyOf d = some k) (r : Rep C G d v) : v = kV k := by
  cases d with
  | int i => cases h; cases r; rfl
  | str i => cases h; cases r; rfl
  | _ => cases h
theorem keys_of : ∀ {ds : List D} {vs : List V} {ks : List Key}, keysOf ds = some ks → Reps C G ds vs → vs = ks.map kV
  | [], _, _, h, .nil => by cases h; rfl
  | d :: ds, _, ks, h, .cons r1 r2 => by
    simp only [keysOf] at h
    split at h
    · rename_i k ks1 h1 h2
      cases h
      rw [key_of h1 r1, keys_of h2 r2]; rfl
    · cases h
theorem at_get {α β : Type} {xs : List α} {ys : List β} {i : Int} {x : α} (hl : xs.length = ys.length) (h : atI xs i = some x) : ∃ j : Nat, xs[j]? = some x ∧ ∀ y, ys[j]? = some y → atI ys i = some y := by
  unfold atI at h ⊢
  rw [← hl]
  cases hj : ixN xs.length i with
  | none => rw [hj] at h; cases h
  | some j => rw [hj] at h; exact ⟨j, h, fun y hy => hy⟩
theorem reps_at {ds : List D} {vs : List V} {i : Int} {d : D} (r : Reps C G ds vs) (h : atI ds i = some d) : ∃ v, atI vs i = some v ∧ Rep C G d v := by
  obtain ⟨j, h1, h2⟩ := at_get (Reps.length r) h
  obtain ⟨v, h3, h4⟩ := Reps.get r h1
  exact ⟨v, h2 v h3, h4⟩
theorem plainIx (h : isSlice b = false) : PlainIx b := by
  intro o i
  cases b <;> first | rfl | (simp [isSlice] at h)
theorem noSl (h : isSlice b = false) : NoSl b := by
  intro o i
  cases b <;> first | rfl | (simp [isSlice] at h)
theorem idx_vals {σ : St} {H : Hp} {Q : VK} (q : tE C (.idx ea eb) σ H Q) : tE C ea σ H fun x H1 => tE C eb σ H1 fun y H2 => ∃ G a b d, Same G H2 ∧ Us C G H2 a x ∧ Us C G H2 b y ∧ idxD a b = some d ∧ ∀ v, Rep C G d v → Q v H2 := by
  obtain ⟨G, P, r, y, r', st, e, k⟩ := q
  simp only [ev] at e
  obtain ⟨x1, r1, h1, e⟩ := R.use_ok e
  obtain ⟨x2, r2, h2, e⟩ := R.use_ok e
  obtain ⟨d, hd, rfl, rfl⟩ := ofD_ok e
  refine tE_use eb.pu st h1 fun v1 G1 H1 P1 st1 s1 u1 p1 => ?_
  refine tE_use true st1 h2 fun v2 G2 H2 P2 st2 s2 u2 p2 => ?_
  exact ⟨G2, _, _, d, st2.gh, u1 _ _ _ s2 p2, u2 _ _ _ (Stp.refl ..) fun _ => Same.refl _, hd, fun v rv => k.fr st2 (s1.trans s2) (fun h => (p1 (andT h).1).trans (p2 (andT h).2)) rv⟩
theorem tE_mono {e : E} {σ : St} {H : Hp} {Q Q' : VK} (q : tE C e σ H Q) (k : ∀ v H, Q v H → Q' v H) : tE C e σ H Q' := by
  obtain ⟨G, P, r, y, r', st, e, h⟩ := q
  exact ⟨G, P, r, y, r', st, e, fun v G' H' P' A a b c d e => k _ _ (h v G' H' P' A a b c d e)⟩
/-- the item, by what is subscripted -/
def rIdx (C : Ct) (dict : Bool) : R2 := fun x y H2 Q => ∃ G a b d, Same G H2 ∧ Us C G H2 a x ∧ Us C G H2 b y ∧ idxD a b = some d ∧ (∀ v, Rep C G d v → Q v H2) ∧ (match a with | .dK _ _ => dict = true | .dT _ _ => dict = true | _ => dict = false)
theorem ix_seqD (hK : X.K = C.K) : IxR X (rIdx C false) := by
  intro value slice pins s σ H x y v u Q I rx ry ⟨G, a, b, d, gh, ux, uy, e, k, hd⟩ hs
  cases a with
  | scr ns =>
    cases b with
    | int j =>
      cases uy.int
      obtain ⟨p, rfl, h⟩ := ux.scr gh
      rw [← hK] at h
      cases hn : atI ns j with
      | none => simp [idxD, at_, hn] at e
      | some n =>
        simp only [idxD, at_, hn] at e
        cases e
        obtain ⟨i, h1, h2⟩ := at_get (ys := ns.map V.int) (by rw [List.length_map]) hn
        refine ix_list value slice pins s σ H _ _ v u Q I rx ry ⟨p, _, j, .int n, rfl, rfl, h, h2 _ (by rw [List.getElem?_map, h1]; rfl), k _ .int⟩ hs
    | _ => cases e
  | lst ds =>
    cases b with
    | int j =>
      cases uy.int
      obtain ⟨p, vs, rfl, h, r⟩ := ux.lst gh
      obtain ⟨w, h1, h2⟩ := reps_at r e
      exact ix_list value slice pins s σ H _ _ v u Q I rx ry ⟨p, _, j, w, rfl, rfl, SqL.of h, h1, k _ h2⟩ hs
    | _ => cases e
  | tup ds =>
    cases b with
    | int j =>
      cases uy.int
      obtain ⟨p, vs, rfl, h, g, r⟩ := ux.tup gh
      obtain ⟨w, h1, h2⟩ := reps_at r e
      exact ix_tup value slice pins s σ H _ _ v u Q I rx ry ⟨p, _, j, w, rfl, rfl, SqT.of h, h1, k _ h2⟩ hs
    | _ => cases e
  | str z =>
    cases b with
    | int j =>
      cases ux.str; cases uy.int
      simp only [idxD] at e
      split at e
      · rename_i hz
        split at e
        · rename_i c hc
          cases e
          exact ix_str value slice pins s σ H _ _ v u Q I rx ry ⟨z, j, c, rfl, rfl, hz, hc, k _ .str⟩ hs
        · cases e
      · cases e
    | _ => cases e
  | dK _ _ => cases hd
  | dT _ _ => cases hd
  | _ => cases e
theorem ge_idx (hK : X.K = C.K) (hu : X.A.units + 64 < cLine) (ha : PE X a (tE C ea)) (hb : PE X b (tE C eb)) (hs : isSlice b = false) : PE X (.Subscript a b pos) (tE C (.idx ea eb)) := by
  refine PE.imp (FJ.PE.or' (pe_ix (ix_seqD hK) ha hb (plainIx hs)) (pe_dget (by omega) ha hb (noSl hs))) fun σ H Q q => ?_
  have q' := q
  obtain ⟨G, P, r, y, r', st, e, k⟩ := q'
  simp only [ev] at e
  obtain ⟨x1, r1, h1, e⟩ := R.use_ok e
  obtain ⟨x2, r2, h2, e⟩ := R.use_ok e
  obtain ⟨d, hd, rfl, rfl⟩ := ofD_ok e
  have main : ∀ (K : V → V → Hp → Prop), (∀ G v1 v2 H2, Same G H2 → Us C G H2 x1.toD v1 → Us C G H2 x2.toD v2 → (∀ v, Rep C G d v → Q v H2) → K v1 v2 H2) → tE C ea σ H fun x H1 => tE C eb σ H1 fun y H2 => K x y H2 := fun K hK => by
    refine tE_use eb.pu st h1 fun v1 G1 H1 P1 st1 s1 u1 p1 => ?_
    refine tE_use true st1 h2 fun v2 G2 H2 P2 st2 s2 u2 p2 => ?_
    exact hK G2 v1 v2 H2 st2.gh (u1 _ _ _ s2 p2) (u2 _ _ _ (Stp.refl ..) fun _ => Same.refl _) fun v rv => k.fr st2 (s1.trans s2) (fun h => (p1 (andT h).1).trans (p2 (andT h).2)) rv
  generalize hx : x1.toD = dx at *
  generalize hy : x2.toD = dy at *
  cases dx with
  | dK ks ds =>
    refine .inr (main _ fun G v1 v2 H2 gh ux uy kk => ?_)
    obtain ⟨p, vs, rfl, h, l, rs⟩ := ux.dK gh
    simp only [idxD] at hd
    split at hd
    · rename_i kk2 hk
      obtain ⟨w, hw, rw'⟩ := look2_get hd rs
      have e2 := key_of hk (Us.rep gh uy)
      exact ⟨p, w, rfl, .inl ⟨_, kk2, .inl h, e2, hw.symm⟩, kk _ rw'⟩
    · cases hd
  | dT ks ds =>
    refine .inr (main _ fun G v1 v2 H2 gh ux uy kk => ?_)
    obtain ⟨p, vs, rfl, h, l, rs⟩ := ux.dT gh
    cases dy with
    | tup xs =>
      simp only [idxD] at hd
      split at hd
      · rename_i kk2 hk
        obtain ⟨w, hw, rw'⟩ := look2_get hd rs
        obtain ⟨q, ws, rfl, hq, gq, rq⟩ := uy.tup gh
        rw [keys_of hk rq] at hq
        exact ⟨p, w, rfl, .inr ⟨_, kk2, q, .inl h, rfl, hq, hw.symm⟩, kk _ rw'⟩
      · cases hd
    | _ => cases hd
  | _ => exact .inl (main _ fun G v1 v2 H2 gh ux uy kk => ⟨G, _, _, d, gh, ux, uy, hd, kk, rfl⟩)

/-! ### isinstance -/
def tyName : Ty → String
  | .int => "int" | .str => "str" | .bool => "bool" | .list => "list" | .tuple => "tuple" | .dict => "dict" | .cls _ _ => "?"
def nameD : D → String
  | .non => "NoneType" | .bl _ => "bool" | .int _ => "int" | .str _ => "str" | .tup _ => "tuple" | .lst _ => "list" | .scr _ => "list" | .dK _ _ => "dict" | .dT _ _ => "dict" | .obj _ _ => "?"
theorem ty_rep {K : PySem.W.Frag} (hK : K = C.K) {d : D} (r : Rep C H d v) (h : ∀ c fs, d ≠ .obj c fs) : TyX K H v (.type (nameD d)) := by
  cases r with
  | non => exact .base .non
  | bl => exact .base (.bl _)
  | int => exact .base (.int _)
  | str => exact .base (.str _)
  | tup h1 _ => exact .base (.tup h1)
  | lst h1 _ => exact .base (.lst h1)
  | dK h1 _ _ => exact .base (.dK h1)
  | dT h1 _ _ => exact .base (.dT h1)
  | scr hs =>
    rcases hs with (h1 | ⟨o, h1⟩) | ⟨o, its, n, hk, hc, _⟩
    · exact .base (.lst h1)
    · exact .base (.frz h1)
    · exact .kList (by rw [hK]; exact hk) hc
  | obj _ _ => exact (h _ _ rfl).elim
theorem kit_all : ([("NoneType", false, false, false, false, false, false), ("bool", true, false, true, false, false, false), ("int", true, false, false, false, false, false), ("str", false, true, false, false, false, false), ("tuple", false, false, false, false, true, false), ("list", false, false, false, true, false, false), ("dict", false, false, false, false, false, true)].all fun (n, a, b, c, d, e, f) =>
    (kitB n "int" == some a) && (kitB n "str" == some b) && (kitB n "bool" == some c) && (kitB n "list" == some d) && (kitB n "tuple" == some e) && (kitB n "dict" == some f)) = true := by decide +kernel
theorem kit_isD {t : Ty} {d : D} {k : Bool} (h : isD t d = some k) (ht : ∀ c s, t ≠ .cls c s) : (∀ c fs, d ≠ .obj c fs) ∧ kitB (nameD d) (tyName t) = some k := by
  have K := kit_all
  simp only [List.all_cons, List.all_nil, Bool.and_eq_true, beq_iff_eq, Bool.and_true] at K
  obtain ⟨⟨⟨⟨⟨⟨n1, n2⟩, n3⟩, n4⟩, n5⟩, n6⟩, ⟨⟨⟨⟨⟨b1, b2⟩, b3⟩, b4⟩, b5⟩, b6⟩, ⟨⟨⟨⟨⟨i1, i2⟩, i3⟩, i4⟩, i5⟩, i6⟩, ⟨⟨⟨⟨⟨s1, s2⟩, s3⟩, s4⟩, s5⟩, s6⟩, ⟨⟨⟨⟨⟨t1, t2⟩, t3⟩, t4⟩, t5⟩, t6⟩, ⟨⟨⟨⟨⟨l1, l2⟩, l3⟩, l4⟩, l5⟩, l6⟩, ⟨⟨⟨⟨d1, d2⟩, d3⟩, d4⟩, d5⟩, d6⟩ := K
  cases t with
  | cls c s => exact (ht _ _ rfl).elim
  | _ => cases d <;> first | (cases h; done) | (cases h; exact ⟨fun _ _ z => (by cases z), by assumption⟩)
def bTy : Ty → Str
  | .int => "int" | .str => "str" | .bool => "bool" | .list => "list" | .tuple => "tuple" | .dict => "dict" | .cls _ _ => "?"
theorem boot_ty {t : Ty} (ht : ∀ c s, t ≠ .cls c s) : bootBuiltins (bTy t) = some (.type (tyName t)) := by
  cases t with
  | int => exact PyProof.Rows.boot_int
  | str => exact PyProof.Rows.boot_str
  | bool => exact PyProof.Rows.boot_bool
  | list => exact PyProof.Rows.boot_list
  | tuple => exact PyProof.Rows.boot_tuple
  | dict => exact PyProof.Rows.boot_dict
  | cls => exact (ht _ _ rfl).elim
theorem ge_isi (hK : X.K = C.K) {t : Ty} {np : Pos} (ht : ∀ c s, t ≠ .cls c s) (hg : Gl X "isinstance") (hm : X.mg "isinstance" = none) (hg2 : Gl X (bTy t)) (hm2 : X.mg (bTy t) = none) (hn : notStar a = true) (ha : PE X a (tE C ea)) :
    PE X (.Call (.Name "isinstance" p) [a, .Name (bTy t) np] [] pos) (tE C (.isi ea t)) := by
  have hb : PE X (.Name (bTy t) np) (tC (.ty (tyName t))) := pe_bltn hg2 hm2 (boot_ty ht) rfl (by cases t <;> first | decide | exact absurd rfl (ht _ _)) (by cases t <;> first | decide | exact absurd rfl (ht _ _))
  refine PE.imp (pe_callB call_isi hg hm PyProof.Rows.boot_isinstance (pa_cons ha (pa_cons hb pa_nil rfl) (star_cons hn)) (by decide) (by decide) (star_cons hn) rfl) fun σ H Q ⟨G, P, r, y, r', st, e, k⟩ => ?_
  simp only [ev] at e
  obtain ⟨x1, r1, h1, e⟩ := R.look_ok e
  obtain ⟨d, hd, rfl, rfl⟩ := ofD_ok e
  cases hi : isD t x1.toD with
  | none => rw [hi] at hd; cases hd
  | some bb =>
    rw [hi] at hd
    cases hd
    obtain ⟨n1, n2⟩ := kit_isD hi ht
    refine tE_look true st h1 fun v1 G1 H1 P1 st1 s1 u1 p1 => ?_
    exact ⟨v1, .ty (tyName t), _, _, bb, rfl, .ty _, ty_rep hK (u1 _ _ _ (Stp.refl ..) st1.gh fun _ => Same.refl _) n1, kit_ty n2, k.fr st1 s1 p1 .bl⟩

/-! ### built-in functions -/
variable {e : Expr} {es : List Expr} {ees : Es}
theorem star_no : ∀ {es : List Expr}, noStars es = true → ∀ {env : PySem.Env} {pos : Pos}, (backTo pos (starEach es env)).any (·.1) = false := by
  intro es
  induction es with
  | nil => intro _ env pos; rfl
  | cons e es ih =>
    intro h env pos
    simp only [noStars, List.all_cons, Bool.and_eq_true] at h
    have hs : starEach (e :: es) env = (false, eval e env) :: starEach es env := by
      cases e <;> first | rfl | (simp [notStar] at h)
    rw [hs]
    have := ih (by unfold noStars; exact h.2) (env := env) (pos := pos)
    unfold backTo at this ⊢
    rw [List.map_cons, List.any_cons]
    simpa using this
def bBi (f : BI) : Str := ⟨((idB f).toList.map Char.toNat).toArray⟩
theorem ge_bi (hK : X.K = C.K) (hc : X.calm = true) {f : BI} {x : Str} (hf : f = .len ∨ f = .sum ∨ f = .all ∨ f = .any ∨ f = .max ∨ f = .min) (hb : bootBuiltins x = some (.builtin (idB f))) (hx : x ≠ "__name__") (hdb : (x == ("__debug__" : Str)) = false)
    (hg : Gl X x) (hm : X.mg x = none) (hn : notStar e = true) (hns : noStars es = true) (ha : PA X (e :: es) (tEu C ees)) : PE X (.Call (.Name x p) (e :: es) [] pos) (tE C (.bi f ees)) := by
  refine PE.imp (pe_callB (call_bi hK hc hf) hg hm hb ha hx hdb (star_cons hn) (star_no hns)) fun σ H Q ⟨G, P, r, y, r', st, e, k⟩ => ?_
  simp only [ev] at e
  split at e
  · rename_i ds r1 h1
    obtain ⟨t, ht, rfl, rfl⟩ := ofT_ok e
    exact ⟨G, P, r, ds, _, st, h1, fun vs G1 H1 P1 st1 s1 rs p1 => ⟨G1, ds, t, st1.gh, rs, ht, k.alc st1 s1 p1⟩⟩
  · cases e
theorem ge_bt (hc : X.calm = true) {f : BI} {x : Str} (hf : f = .list ∨ f = .tuple ∨ f = .int) (hb : bootBuiltins x = some (.type (idT f))) (hx : x ≠ "__name__") (hdb : (x == ("__debug__" : Str)) = false)
    (hg : Gl X x) (hm : X.mg x = none) (hn : notStar e = true) (hns : noStars es = true) (ha : PA X (e :: es) (tEu C ees)) : PE X (.Call (.Name x p) (e :: es) [] pos) (tE C (.bi f ees)) := by
  refine PE.imp (pe_callTy (call_bt (C := C) hc hf) hg hm hb ha hx hdb (star_cons hn) (star_no hns)) fun σ H Q ⟨G, P, r, y, r', st, e, k⟩ => ?_
  simp only [ev] at e
  split at e
  · rename_i ds r1 h1
    obtain ⟨t, ht, rfl, rfl⟩ := ofT_ok e
    exact ⟨G, P, r, ds, _, st, h1, fun vs G1 H1 P1 st1 s1 rs p1 => ⟨G1, ds, t, st1.gh, rs, ht, k.alc st1 s1 p1⟩⟩
  · cases e
theorem base_ok {env : PySem.Env} {m : Str} (h : baseOk a = true) : attributeBase a m env (eval a env) = eval a env := by
  unfold attributeBase
  split
  · rename_i id _ pos
    simp only [baseOk, decide_eq_true_eq, ne_eq] at h
    have h1 : (id != ("super" : Str)) = true := by simpa using h
    simp [h1]
  · rfl
theorem ge_upper {apos : Pos} (hb : baseOk a = true) (hl : (apos.endLine == pos.line) = true) (ha : PE X a (tE C ea)) : PE X (.Call (.Attribute a "upper" apos) [] [] pos) (tE C (.mt .upper ea .nil)) := by
  refine PE.imp (pe_upper ha (base_ok hb) hl) fun σ H Q ⟨G, P, r, y, r', st, e, k⟩ => ?_
  simp only [ev, evu] at e
  obtain ⟨x1, r1, h1, e⟩ := R.use_ok e
  obtain ⟨t, ht, rfl, rfl⟩ := ofT_ok e
  refine tE_use true st h1 fun v1 G1 H1 P1 st1 s1 u1 p1 => ?_
  have u := u1 _ _ _ (Stp.refl ..) fun _ => Same.refl _
  cases hx : x1.toD with
  | str z =>
    rw [hx] at u ht
    cases u.str
    simp only [mtD] at ht
    split at ht
    · cases ht
      exact ⟨⟨z, rfl⟩, z, rfl, rfl, by assumption, k.fr st1 s1 (fun h => p1 (andT h).1) .str⟩
    · cases ht
  | _ => rw [hx] at ht; cases ht
end
end FJ

/-! Targets, what is walked, comprehensions. -/
namespace FJ
open PySem L2

def Pput (P : Nat → Addr → Prop) (i : Nat) (A : Addr → Prop) : Nat → Addr → Prop := fun j a => (j = i ∧ A a) ∨ (j ≠ i ∧ P j a)
def Pout (P : Nat → Addr → Prop) (vs : List Nat) : Nat → Addr → Prop := fun j a => j ∉ vs ∧ P j a
section
variable {C : Ct} {G H G' H' G1 H1 : Hp} {P P' P1 P2 : Nat → Addr → Prop} {r r' : Env} {σ σ' : St} {A B : Addr → Prop} {x : Val} {v : V} {t : T} {d : D} {Q : VK}
theorem Sst.put (st : Sst C G H P r σ) {i : Nat} (o : Own C G H t v A) (hd : ∀ j a, A a → j ≠ i → ¬ P j a) (hi : i < σ.length) : Sst C G H (Pput P i A) (r.set i (some t)) (σ.set i (some v)) where
  len := by rw [List.length_set, List.length_set]; exact st.len
  gh := st.gh
  sl := fun j t' h => by
    rcases getSet h with ⟨rfl, ht, hl⟩ | ⟨hne, h⟩
    · cases ht
      refine ⟨v, List.getElem?_set_self hi, ?_⟩
      have : Pput P i A i = A := by
        funext a
        exact propext ⟨fun h => h.elim (fun h => h.2) fun h => (h.1 rfl).elim, fun h => .inl ⟨rfl, h⟩⟩
      rw [this]; exact o
    · obtain ⟨w, h1, h2⟩ := st.sl j t' h
      refine ⟨w, by rw [List.getElem?_set_ne hne]; exact h1, ?_⟩
      have : Pput P i A j = P j := by
        funext a
        exact propext ⟨fun h => h.elim (fun h => (hne h.1.symm).elim) fun h => h.2, fun h => .inr ⟨hne.symm, h⟩⟩
      rw [this]; exact h2
  pe := fun j a h => by
    rcases h with ⟨rfl, h⟩ | ⟨hne, h⟩
    · exact ⟨t, List.getElem?_set_self (by rw [st.len]; exact hi)⟩
    · obtain ⟨t', h'⟩ := st.pe j a h
      exact ⟨t', by rw [List.getElem?_set_ne (Ne.symm hne)]; exact h'⟩
  dj := fun j k a h1 h2 => by
    rcases h1 with ⟨rfl, h1⟩ | ⟨n1, h1⟩ <;> rcases h2 with ⟨rfl, h2⟩ | ⟨n2, h2⟩
    · rfl
    · exact (hd k a h1 n2 h2).elim
    · exact (hd j a h2 n1 h1).elim
    · exact st.dj j k a h1 h2
theorem Sst.big (st : Sst C G H P r σ) {i : Nat} (h : σ.length ≤ i) {A : Addr → Prop} (hA : ∀ a, ¬ A a) : Pput P i A = P := by
  funext j a
  refine propext ⟨fun h => h.elim (fun h => (hA a h.2).elim) fun h => h.2, fun hp => .inr ⟨?_, hp⟩⟩
  rintro rfl
  obtain ⟨t, ht⟩ := st.pe j a hp
  have := ltOf ht
  rw [st.len] at this; omega
theorem Sst.putF (st : Sst C G H P r σ) (i : Nat) (h : Rep C G d v) : Sst C G H (Pput P i fun _ => False) (r.set i (some (.fr d))) (σ.set i (some v)) := by
  by_cases hi : i < σ.length
  · exact st.put (.fr h fun _ z => z) (fun _ _ z => z.elim) hi
  · have hi' : σ.length ≤ i := by omega
    rw [List.set_eq_of_length_le hi', List.set_eq_of_length_le (by rw [st.len]; exact hi'), st.big hi' fun _ z => z]
    exact st
theorem Pput_sub {i : Nat} : ∀ (j : Nat) (a : Addr), Pput P i (fun _ => False) j a → P j a := fun _ _ h => h.elim (fun h => h.2.elim) fun h => h.2
theorem Stp.setP (s : Stp G H P G' H' P') (h : ∀ j a, P2 j a → P' j a ∨ (∃ j, P j a) ∨ H a = none) : Stp G H P G' H' P2 :=
  ⟨s.gg, s.kp, s.ld, fun i a hp => (h i a hp).elim (fun z => s.pp i a z) id, s.gn⟩
theorem Stp.sub (s : Stp G H P G' H' P') (h : ∀ j a, P2 j a → P' j a) : Stp G H P G' H' P2 := s.setP fun j a hp => .inl (h j a hp)
theorem Stp.updN (s : Stp G H P G' H' P') {D : Addr} {o : HO} (h : H D = none) : Stp G H P G' (upd H' D o) P' where
  gg := s.gg
  kp := fun a u e n => by rw [upd_ne (ne_of_none e h)]; exact s.kp a u e n
  ld := fun a e => by
    by_cases ha : a = D
    · rw [ha]; exact h
    · rw [upd_ne ha] at e; exact s.ld a e
  pp := s.pp
  gn := s.gn
theorem Sst.updD (st : Sst C G H P r σ) {D : Addr} {o : HO} (hG : G D = none) (hP : ∀ j, ¬ P j D) : Sst C G (upd H D o) P r σ where
  len := st.len
  gh := fun a u e => by rw [upd_ne (ne_of_none e hG)]; exact st.gh a u e
  sl := fun i t e => by
    obtain ⟨v, h1, h2⟩ := st.sl i t e
    refine ⟨v, h1, Own.mono (Same.refl G) h2 (fun a h => (Own.dom h2 h).1) fun a u ha e => ?_⟩
    rw [upd_ne (fun z => hP i (by rw [← z]; exact ha))]; exact e
  pe := st.pe
  dj := st.dj
/-- what nobody has of the frame stays as it is -/
theorem Stp.stays (s : Stp G H P G' H' P') {a : Addr} {o : HO} (h : H a = some o) (n : ∀ j, ¬ P j a) (hG : G a = none) : H' a = some o ∧ G' a = none ∧ ∀ j, ¬ P' j a := by
  refine ⟨s.kp a o h n, ?_, fun j hj => ?_⟩
  · by_cases hg : G' a = none
    · exact hg
    · exact (s.gn a hG hg).elim (fun ⟨j, hj⟩ => (n j hj).elim) fun z => by rw [h] at z; cases z
  · exact (s.pp j a hj).elim (fun ⟨j, hj⟩ => (n j hj).elim) fun z => by rw [h] at z; cases z
theorem Own.stays (s : Stp G H P G' H' P') (o : Own C G H t v A) (n : ∀ j a, A a → ¬ P j a) : Own C G' H' t v A ∧ ∀ j a, A a → ¬ P' j a := by
  refine ⟨Own.mono s.gg o (fun a ha => ?_) (fun a u ha e => s.kp a u e fun j => n j a ha), fun j a ha => ?_⟩
  · obtain ⟨h1, h2⟩ := Own.dom o ha
    cases e : H a with
    | none => exact (h2 e).elim
    | some u => exact (s.stays e (fun j => n j a ha) h1).2.1
  · obtain ⟨h1, h2⟩ := Own.dom o ha
    cases e : H a with
    | none => exact (h2 e).elim
    | some u => exact (s.stays e (fun j => n j a ha) h1).2.2 j

/-! ### slots wiped, laid back -/
theorem wipe_in {σ : St} {i : Nat} : ∀ {vs : List Nat}, i ∈ vs → (wipe σ vs)[i]? = if i < σ.length then some none else none
  | v :: vs, h => by
    unfold wipe
    by_cases e : v = i
    · subst e
      by_cases hl : v < σ.length
      · rw [List.getElem?_set_self (by rw [wipe_length]; exact hl), if_pos hl]
      · rw [if_neg hl, List.getElem?_eq_none]; rw [List.length_set, wipe_length]; omega
    · rw [List.getElem?_set_ne e]
      exact wipe_in (by simpa [Ne.symm e] using h)
theorem wipe_out {σ : St} {i : Nat} : ∀ {vs : List Nat}, i ∉ vs → (wipe σ vs)[i]? = σ[i]?
  | [], _ => rfl
  | v :: vs, h => by
    unfold wipe
    have h1 : v ≠ i := fun z => h (by rw [z]; exact List.mem_cons_self)
    rw [List.getElem?_set_ne h1]
    exact wipe_out fun z => h (List.mem_cons_of_mem _ z)
theorem wipeE_eq : ∀ (vs : List Nat) (r : Env), (wipeE vs r).length = r.length ∧ ∀ i, (i ∉ vs → (wipeE vs r)[i]? = r[i]?) ∧ (i ∈ vs → ∀ t, (wipeE vs r)[i]? ≠ some (some t))
  | [], r => ⟨rfl, fun i => ⟨fun _ => rfl, fun h => by simp at h⟩⟩
  | v :: vs, r => by
    obtain ⟨l, h⟩ := wipeE_eq vs r
    unfold wipeE
    refine ⟨by rw [List.length_set]; exact l, fun i => ⟨fun hi => ?_, fun hi t e => ?_⟩⟩
    · have h1 : v ≠ i := fun z => hi (by rw [z]; exact List.mem_cons_self)
      rw [List.getElem?_set_ne h1]
      exact (h i).1 fun z => hi (List.mem_cons_of_mem _ z)
    · rcases getSet e with ⟨_, z, _⟩ | ⟨hne, e⟩
      · cases z
      · exact (h i).2 (by simpa [Ne.symm hne] using hi) t e
/-- outside of vs as it was -/
def Fr (vs : List Nat) (σ σ' : St) : Prop := σ'.length = σ.length ∧ ∀ i, i ∉ vs → σ'[i]? = σ[i]?
theorem Fr.refl {vs : List Nat} : Fr vs σ σ := ⟨rfl, fun _ _ => rfl⟩
theorem Fr.trans {vs ws : List Nat} {σ'' : St} (a : Fr vs σ σ') (b : Fr ws σ' σ'') : Fr (vs ++ ws) σ σ'' :=
  ⟨b.1.trans a.1, fun i h => (b.2 i fun z => h (List.mem_append_right _ z)).trans (a.2 i fun z => h (List.mem_append_left _ z))⟩
theorem Fr.set {i : Nat} {o : Option V} : Fr [i] σ (σ.set i o) := ⟨List.length_set, fun j h => List.getElem?_set_ne (by simpa using Ne.symm (by simpa using h))⟩
theorem Fr.wipe {vs : List Nat} (f : Fr vs σ σ') : L2.wipe σ' vs = L2.wipe σ vs := by
  apply List.ext_getElem?
  intro i
  by_cases h : i ∈ vs
  · rw [wipe_in h, wipe_in h, f.1]
  · rw [wipe_out h, wipe_out h, f.2 i h]
theorem Sst.wipe (st : Sst C G H P r σ) (vs : List Nat) : Sst C G H (Pout P vs) (wipeE vs r) (L2.wipe σ vs) where
  len := by rw [(wipeE_eq vs r).1, wipe_length]; exact st.len
  gh := st.gh
  sl := fun i t e => by
    by_cases h : i ∈ vs
    · exact (((wipeE_eq vs r).2 i).2 h t e).elim
    · rw [((wipeE_eq vs r).2 i).1 h] at e
      obtain ⟨v, h1, h2⟩ := st.sl i t e
      refine ⟨v, by rw [wipe_out h]; exact h1, ?_⟩
      have : Pout P vs i = P i := by
        funext a
        exact propext ⟨fun h => h.2, fun z => ⟨h, z⟩⟩
      rw [this]; exact h2
  pe := fun i a h => by
    obtain ⟨t, e⟩ := st.pe i a h.2
    exact ⟨t, by rw [((wipeE_eq vs r).2 i).1 h.1]; exact e⟩
  dj := fun i j a h1 h2 => st.dj i j a h1.2 h2.2
theorem backE_eq {r0 : Env} : ∀ (vs : List Nat) (r : Env), r.length = r0.length → (backE r0 vs r).length = r.length ∧ ∀ i, (i ∉ vs → (backE r0 vs r)[i]? = r[i]?) ∧ (i ∈ vs → (backE r0 vs r)[i]? = r0[i]?)
  | [], r, _ => ⟨rfl, fun i => ⟨fun _ => rfl, fun h => by simp at h⟩⟩
  | v :: vs, r, hl => by
    obtain ⟨l, h⟩ := backE_eq vs r hl
    unfold backE
    split
    · rename_i o ho
      refine ⟨by rw [List.length_set]; exact l, fun i => ⟨fun hi => ?_, fun hi => ?_⟩⟩
      · have h1 : v ≠ i := fun z => hi (by rw [z]; exact List.mem_cons_self)
        rw [List.getElem?_set_ne h1]
        exact (h i).1 fun z => hi (List.mem_cons_of_mem _ z)
      · by_cases e : v = i
        · subst e
          rw [List.getElem?_set_self (by rw [l, hl]; exact ltOf ho), ho]
        · rw [List.getElem?_set_ne e]
          exact (h i).2 (by simpa [Ne.symm e] using hi)
    · rename_i ho
      refine ⟨l, fun i => ⟨fun hi => (h i).1 fun z => hi (List.mem_cons_of_mem _ z), fun hi => ?_⟩⟩
      by_cases e : i ∈ vs
      · exact (h i).2 e
      · have : i = v := by simpa [e] using hi
        subst this
        rw [(h i).1 e, ho, List.getElem?_eq_none]
        rw [hl]
        exact List.getElem?_eq_none_iff.mp ho
theorem stillE_at : ∀ {vs : List Nat} {r : Env} {i : Nat} {t : T}, stillE r vs = true → i ∈ vs → r[i]? = some (some t) → ∃ d, t = .fr d
  | v :: vs, r, i, t, h, hi, e => by
    simp only [stillE, Bool.and_eq_true] at h
    by_cases hv : i = v
    · subst hv
      have h1 := h.1
      rw [e] at h1
      cases t with
      | fr d => exact ⟨d, rfl⟩
      | _ => cases h1
    · exact stillE_at h.2 (by simpa [hv] using hi) e
/-- behind a comprehension -/
theorem Sst.back {vs : List Nat} {r0 rf : Env} (st1 : Sst C G1 H1 P1 r0 σ) (hs : stillE r0 vs = true) (st : Sst C G H P rf (L2.wipe σ vs)) (s : Stp G1 H1 P1 G H P) : Sst C G H (Pout P vs) (backE r0 vs rf) σ := by
  have hl : rf.length = r0.length := by rw [st.len, st1.len, wipe_length]
  obtain ⟨l, be⟩ := backE_eq (r0 := r0) vs rf hl
  refine ⟨by rw [l, hl, st1.len], st.gh, fun i t e => ?_, fun i a h => ?_, fun i j a h1 h2 => st.dj i j a h1.2 h2.2⟩
  · by_cases h : i ∈ vs
    · rw [(be i).2 h] at e
      obtain ⟨d, rfl⟩ := stillE_at hs h e
      obtain ⟨v, h1, h2⟩ := st1.sl i _ e
      refine ⟨v, h1, ?_⟩
      cases h2 with
      | fr rp _ => exact .fr (Rep.mono s.gg rp) fun a z => z.1 h
    · rw [(be i).1 h] at e
      obtain ⟨v, h1, h2⟩ := st.sl i t e
      refine ⟨v, by rw [wipe_out h] at h1; exact h1, ?_⟩
      have : Pout P vs i = P i := by
        funext a
        exact propext ⟨fun h => h.2, fun z => ⟨h, z⟩⟩
      rw [this]; exact h2
  · obtain ⟨t, e⟩ := st.pe i a h.2
    exact ⟨t, by rw [(be i).1 h.1]; exact e⟩
/-- what is walked and hidden -/
def Hdn (C : Ct) (G H : Hp) (P : Nat → Addr → Prop) (P0 : Nat → Addr → Prop) (H0 : Hp) (σ : St) : Option (Nat × T) → Prop
  | none => True
  | some (i, t) => ∃ v A, σ[i]? = some (some v) ∧ Own C G H t v A ∧ (∀ j a, A a → ¬ P j a) ∧ ∀ a, A a → (∃ j, P0 j a) ∨ H0 a = none
theorem Sst.show {P0 : Nat → Addr → Prop} {H0 : Hp} {hid : Option (Nat × T)} (st : Sst C G H P r σ') (s : Stp G1 H1 P1 G H P) (h : Hdn C G1 H1 P1 P0 H0 σ hid) (hσ : ∀ i t, hid = some (i, t) → σ'[i]? = σ[i]?) :
    ∃ P3, Sst C G H P3 (showE hid r) σ' ∧ ∀ j a, P3 j a → P j a ∨ (H1 a ≠ none ∧ ((∃ j, P0 j a) ∨ H0 a = none)) := by
  cases hid with
  | none => exact ⟨P, st, fun j a z => .inl z⟩
  | some q =>
    obtain ⟨i, t⟩ := q
    obtain ⟨v, A, h1, h2, h3, h4⟩ := h
    obtain ⟨o, n⟩ := Own.stays s h2 h3
    have e := (hσ i t rfl).trans h1
    have st2 := st.put o (fun j a ha _ => n j a ha) (ltOf e)
    have : σ'.set i (some v) = σ' := by
      apply List.ext_getElem?
      intro j
      by_cases hj : i = j
      · subst hj
        rw [List.getElem?_set_self (ltOf e), e]
      · rw [List.getElem?_set_ne hj]
    rw [this] at st2
    refine ⟨_, st2, fun j a z => ?_⟩
    rcases z with ⟨_, z⟩ | ⟨_, z⟩
    · exact .inr ⟨(Own.dom h2 z).2, h4 a z⟩
    · exact .inl z
end

/-! ### targets -/
def tG (C : Ct) (tg : Tg) : TG := fun v σ H Q => ∃ G P r d r', Sst C G H P r σ ∧ Rep C G d v ∧ tg.bind d r = some r' ∧ ∀ σ' P', Sst C G H P' r' σ' → (∀ j a, P' j a → P j a) → Fr tg.slots σ σ' → Q σ' H
def tGs (C : Ct) (tgs : List Tg) : TGs := fun vs σ H Q => ∃ G P r ds r', Sst C G H P r σ ∧ Reps C G ds vs ∧ Tg.binds tgs ds r = some r' ∧ ∀ σ' P', Sst C G H P' r' σ' → (∀ j a, P' j a → P j a) → Fr (Tg.slotss tgs) σ σ' → Q σ' H
theorem PGs.imp {X : Cx} {e : List Expr} {t t' : TGs} (h : PGs X e t) (k : ∀ v σ H Q, t' v σ H Q → t v σ H Q) : PGs X e t' := ⟨fun pins s σ H v u Q I r q => h.run pins s σ H v u Q I r (k v σ H Q q)⟩
theorem PTs.imp {X : Cx} {e : List Expr} {t t' : TT} (h : PTs X e t) (k : ∀ σ H Q, t' σ H Q → t σ H Q) : PTs X e t' := ⟨fun pins s σ H Q I q => h.run pins s σ H Q I (k σ H Q q)⟩
section
variable {X : Cx} {C : Ct} {pos p : Pos} {e : Expr} {es : List Expr} {tg : Tg} {tgs : List Tg}
theorem gg_name {i : Nat} {x : Str} (hN : X.N.Nodup) (hi : X.N[i]? = some x) (hx : Loc X.env.scope x) (hf : X.fn x = true ∨ X.env.scope.names.lookup x = some .local) : PG X (.Name x pos) (tG C (.name i)) := by
  refine PG.imp (pg_name hN hi hx hf) fun v σ H Q ⟨G, P, r, d, r', st, rp, e, k⟩ => ?_
  simp only [Tg.bind] at e
  cases e
  exact k _ _ (st.putF i rp) Pput_sub (by simp only [Tg.slots]; exact Fr.set)
theorem ggs_nil : PGs X [] (tGs C []) := by
  refine PGs.imp pgs_nil fun v σ H Q ⟨G, P, r, ds, r', st, rp, e, k⟩ => ?_
  cases rp with
  | nil =>
    simp only [Tg.binds] at e
    cases e
    exact ⟨rfl, k σ P st (fun _ _ h => h) Fr.refl⟩
  | cons _ _ => simp only [Tg.binds] at e; cases e
theorem assign_cons (h : notStar e = true) : (assignEach (e :: es) X.env).map (·.2) = assign e X.env :: (assignEach es X.env).map (·.2) := by
  cases e <;> first | rfl | (simp [notStar] at h)
theorem assign_facts : ∀ {es : List Expr}, noStars es = true → (assignEach es X.env).length = es.length ∧ (assignEach es X.env).findIdx? (·.1) = none := by
  intro es
  induction es with
  | nil => intro _; exact ⟨rfl, rfl⟩
  | cons e es ih =>
    intro h
    simp only [noStars, List.all_cons, Bool.and_eq_true] at h
    obtain ⟨h1, h2⟩ := ih (by unfold noStars; exact h.2)
    have hs : assignEach (e :: es) X.env = (false, assign e X.env) :: assignEach es X.env := by
      cases e <;> first | rfl | (simp [notStar] at h)
    rw [hs]
    refine ⟨by rw [List.length_cons, List.length_cons, h1], ?_⟩
    rw [List.findIdx?_cons]
    simp [h2]
theorem ggs_cons (hn : notStar e = true) (h1 : PG X e (tG C tg)) (h2 : PGs X es (tGs C tgs)) : PGs X (e :: es) (tGs C (tg :: tgs)) := by
  refine PGs.imp (pgs_cons h1 h2 (assign_cons hn)) fun v σ H Q ⟨G, P, r, ds, r', st, rp, e, k⟩ => ?_
  cases rp with
  | nil => simp only [Tg.binds] at e; cases e
  | cons a b =>
    simp only [Tg.binds] at e
    split at e
    · rename_i r2 hr
      exact ⟨_, _, rfl, G, P, r, _, r2, st, a, hr, fun σ2 P2 st2 s2 f2 => ⟨G, P2, r2, _, r', st2, b, e, fun σ3 P3 st3 s3 f3 => k σ3 P3 st3 (fun j a h => s2 j a (s3 j a h)) (by simp only [Tg.slotss]; exact f2.trans f3)⟩⟩
    · cases e
theorem binds_len : ∀ {tgs : List Tg} {ds : List D} {r r' : Env}, Tg.binds tgs ds r = some r' → tgs.length = ds.length
  | [], [], _, _, _ => rfl
  | [], _ :: _, _, _, e => by simp [Tg.binds] at e
  | _ :: _, [], _, _, e => by simp [Tg.binds] at e
  | t :: ts, d :: ds, r, r', e => by
    simp only [Tg.binds] at e
    split at e
    · simp [binds_len e]
    · cases e
theorem gg_tup {k : Nat} (hK : X.K = C.K) (hc : X.calm = true) (hn : noStars es = true) (hl : es.length = tgs.length) (h : PGs X es (tGs C tgs)) : PG X (.Tuple es k pos) (tG C (.tup tgs)) := by
  refine PG.imp (pg_tup hc h (assign_facts hn).1 (assign_facts hn).2) fun v σ H Q ⟨G, P, r, d, r', st, rp, e, k⟩ => ?_
  cases d with
  | tup ds =>
    simp only [Tg.bind] at e
    cases rp with
    | tup hp rs =>
      refine ⟨_, _, rfl, SqT.of (st.gh _ _ hp), ?_, G, P, r, ds, r', st, rs, e, fun σ' P' st' s' f => k σ' P' st' s' (by simp only [Tg.slots]; exact f)⟩
      rw [hl, binds_len e, Reps.length rs]
  | _ => simp only [Tg.bind] at e; cases e
end

/-! ### what is walked -/
structure Wk (C : Ct) (J : L2.It) (ds : List D) (Gd : Hp → Prop) (G0 : Hp) : Prop where
  ex : ∃ Y, Walk J ds.length Gd Y ∧ ∀ i H x H', i < ds.length → Y i H x H' → ∀ G, Same G0 G → Same G H → ∃ d G', ds[i]? = some d ∧ Grow G H G' H' ∧ Rep C G' d x
def tI (C : Ct) (it : FJ.It) : TI := fun σ H R => ∃ G P r ds hid r', Sst C G H P r σ ∧ evi it r = .ok ds hid r' ∧ ∀ J G' H' P' Gd, Sst C G' H' P' (hideE hid r') σ → Stp G H P G' H' P' → (it.pu = true → Same H H') → Wk C J ds Gd G' → Gd H' →
  (∀ G2 H2 P2, Stp G' H' P' G2 H2 P2 → Same G2 H2 → Gd H2) → Hdn C G' H' P' P H σ hid → R J H'
section
variable {X : Cx} {C : Ct} {G H : Hp} {K : PySem.W.Frag} {ds es : List D} {vs ws : List V} {a b : Addr}
theorem wk_at {J : L2.It} {Gd : Hp → Prop} (w : Walk J vs.length Gd (YAt vs)) (rs : Reps C G ds vs) : Wk C J ds Gd G := by
  refine ⟨YAt vs, by rw [Reps.length rs]; exact w, ?_⟩
  rintro i H x H' hi ⟨e1, e2⟩ G2 s1 s2
  obtain ⟨d, h1, h2⟩ := Reps.getV rs e2
  exact ⟨d, G2, h1, by rw [e1]; exact Grow.refl s2, Rep.mono s1 h2⟩
theorem wk_list (rs : Reps C G ds vs) : Wk C (Itl K a) ds (fun H => SqL K H a vs) G := wk_at walk_list rs
theorem wk_tup (rs : Reps C G ds vs) : Wk C (Itt K a) ds (fun H => SqT K H a vs) G := wk_at walk_tup rs
theorem wk_str (z : Str) : Wk C (Its z) (z.cps.toList.map fun c => .str ⟨#[c]⟩) (fun _ => True) G := by
  refine ⟨fun i H v H' => H' = H ∧ ∃ c, z.cps[i]? = some c ∧ v = .str ⟨#[c]⟩, by rw [List.length_map, Array.length_toList]; exact walk_str, ?_⟩
  rintro i H x H' hi ⟨e1, c, e2, e3⟩ G2 s1 s2
  refine ⟨.str ⟨#[c]⟩, G2, ?_, by rw [e1]; exact Grow.refl s2, by rw [e3]; exact .str⟩
  rw [List.getElem?_map, Array.getElem?_toList, e2]; rfl
theorem wk_range {lo : Int} {n : Nat} : Wk C (Itr lo n) ((List.range n).map fun (i : Nat) => .int (lo + i)) (fun _ => True) G := by
  refine ⟨YFn fun i => .int (lo + i), by rw [List.length_map, List.length_range]; exact walk_range, ?_⟩
  rintro i H x H' hi ⟨e1, e2⟩ G2 s1 s2
  rw [List.length_map, List.length_range] at hi
  refine ⟨.int (lo + i), G2, ?_, by rw [e1]; exact Grow.refl s2, by rw [e2]; exact .int⟩
  rw [List.getElem?_map, List.getElem?_range hi]; rfl
theorem enumD_len : ∀ (ds : List D) (k : Nat), (enumD k ds).length = ds.length
  | [], _ => rfl
  | _ :: ds, k => by simp [enumD, enumD_len ds (k + 1)]
theorem enumD_get : ∀ (ds : List D) (k i : Nat), (enumD k ds)[i]? = (ds[i]?).map fun d => .tup [.int (k + i : Nat), d]
  | [], _, _ => by simp [enumD]
  | d :: ds, k, 0 => by simp [enumD]
  | d :: ds, k, i + 1 => by
    have := enumD_get ds (k + 1) i
    simp only [enumD, List.getElem?_cons_succ, this]
    congr 1
    funext d
    congr 4
    omega
theorem pair_item {d1 d2 : D} {x y v : V} {H' : Hp} {t : Addr} (s : Same G H) (r1 : Rep C G d1 x) (r2 : Rep C G d2 y) (e1 : v = .ref t) (e2 : H t = none) (e3 : H' = upd H t (.tup [x, y])) : ∃ G', Grow G H G' H' ∧ Rep C G' (.tup [d1, d2]) v := by
  subst e1; subst e3
  refine ⟨upd G t (.tup [x, y]), Grow.nuF s e2, .tup upd_same (.cons ?_ (.cons ?_ .nil))⟩
  · exact Rep.mono (Same.nu (Same.no s e2)) r1
  · exact Rep.mono (Same.nu (Same.no s e2)) r2
theorem wk_enum (rs : Reps C G ds vs) : Wk C (Ite K a) (enumD 0 ds) (fun H => SqL K H a vs) G := by
  refine ⟨YPair (fun i => some (.int (i : Nat))) (fun i => vs[i]?), by rw [enumD_len, Reps.length rs]; exact walk_enum, ?_⟩
  rintro i H x H' hi ⟨t, y, z, e1, e2, e3, e4, e5⟩ G2 s1 s2
  cases e4
  obtain ⟨d, h1, h2⟩ := Reps.getV rs e5
  obtain ⟨G', g, rp⟩ := pair_item (C := C) s2 (.int (i := i)) (Rep.mono s1 h2) e1 e2 e3
  refine ⟨_, G', ?_, g, rp⟩
  rw [enumD_get, h1]
  simp
theorem zipD_len : ∀ (ds es : List D), (zipD ds es).length = min ds.length es.length
  | [], _ => by simp [zipD]
  | _ :: _, [] => by simp [zipD]
  | _ :: ds, _ :: es => by simp only [zipD, List.length_cons, zipD_len ds es]; omega
theorem zipD_get : ∀ {ds es : List D} {i : Nat} {d e : D}, ds[i]? = some d → es[i]? = some e → (zipD ds es)[i]? = some (.tup [d, e])
  | [], _, _, _, _, h, _ => by simp at h
  | _ :: _, [], _, _, _, _, h => by simp at h
  | _ :: _, _ :: _, 0, _, _, h1, h2 => by simp at h1 h2; subst h1; subst h2; rfl
  | _ :: ds, _ :: es, i + 1, _, _, h1, h2 => by
    simp only [zipD, List.getElem?_cons_succ]
    exact zipD_get (by simpa using h1) (by simpa using h2)
theorem wk_zip (rs : Reps C G ds vs) (rt : Reps C G es ws) : Wk C (Itz K a b) (zipD ds es) (fun H => SqL K H a vs ∧ SqL K H b ws) G := by
  refine ⟨YPair (fun i => vs[i]?) (fun i => ws[i]?), walk_zip (by rw [zipD_len, Reps.length rs, Reps.length rt]), ?_⟩
  rintro i H x H' hi ⟨t, y, z, e1, e2, e3, e4, e5⟩ G2 s1 s2
  obtain ⟨d, h1, h2⟩ := Reps.getV rs e4
  obtain ⟨d', h1', h2'⟩ := Reps.getV rt e5
  obtain ⟨G', g, rp⟩ := pair_item (C := C) s2 (Rep.mono s1 h2) (Rep.mono s1 h2') e1 e2 e3
  exact ⟨_, G', zipD_get h1 h1', g, rp⟩
theorem SqL.mono {H' : Hp} (s : Same H H') (h : SqL K H a vs) : SqL K H' a vs := Same.seq s h
end
section
variable {X : Cx} {C : Ct} {e e2 tg : Expr} {es : List Expr} {ee ee2 : E} {ees : Es} {p pos tpos : Pos}
theorem gi_lst (hK : X.K = C.K) (he : PE X e (tE C ee)) : PI X tg e (tI C (.lst ee)) := by
  refine PI.imp (FJ.PI.or' (pi_list he) (FJ.PI.or' (pi_tup he) (pi_str he))) fun σ H R ⟨G, P, r, ds, hid, r', st, e, k⟩ => ?_
  simp only [evi] at e
  split at e
  · rename_i t r1 h1
    split at e
    · rename_i ds2 hs
      cases e
      have main : ∀ (K : V → Hp → Prop), (∀ G1 P1 H1 v, Sst C G1 H1 P1 r' σ → Stp G H P G1 H1 P1 → Rep C G1 t.toD v → (ee.pu = true → Same H H1) → K v H1) → tE C ee σ H K := fun K hk => tE_settle st h1 fun v1 G1 P1 H1 st1 s1 rp p1 => hk G1 P1 H1 v1 st1 s1 rp p1
      have fin : ∀ J G1 P1 H1 Gd, Sst C G1 H1 P1 r' σ → Stp G H P G1 H1 P1 → (ee.pu = true → Same H H1) → Wk C J ds Gd G1 → (∀ G2 H2, Same G1 G2 → Same G2 H2 → Gd H2) → R J H1 := fun J G1 P1 H1 Gd st1 s1 p1 wk gd =>
        k J G1 H1 P1 Gd st1 s1 p1 wk (gd G1 H1 (Same.refl _) st1.gh) (fun G2 H2 P2 s2 g2 => gd G2 H2 s2.gg g2) trivial
      generalize ht : t.toD = d at *
      cases d with
      | scr ns =>
        cases hs
        refine .inl (main _ fun G1 P1 H1 v st1 s1 rp p1 => ?_)
        cases rp with
        | scr h =>
          have h' := h
          rw [← hK] at h
          exact ⟨_, rfl, ⟨_, Same.seq st1.gh h⟩, fin _ G1 P1 H1 _ st1 s1 p1 (wk_list (ints_reps ns)) fun G2 H2 g1 g2 => Same.seq g2 (Same.seq g1 h)⟩
      | lst xs =>
        cases hs
        refine .inl (main _ fun G1 P1 H1 v st1 s1 rp p1 => ?_)
        cases rp with
        | lst h rs => exact ⟨_, rfl, ⟨_, SqL.of (st1.gh _ _ h)⟩, fin _ G1 P1 H1 _ st1 s1 p1 (wk_list rs) fun G2 H2 g1 g2 => SqL.of (g2 _ _ (g1 _ _ h))⟩
      | tup xs =>
        cases hs
        refine .inr (.inl (main _ fun G1 P1 H1 v st1 s1 rp p1 => ?_))
        cases rp with
        | tup h rs => exact ⟨_, rfl, ⟨_, SqT.of (st1.gh _ _ h)⟩, fin _ G1 P1 H1 _ st1 s1 p1 (wk_tup rs) fun G2 H2 g1 g2 => SqT.of (g2 _ _ (g1 _ _ h))⟩
      | str z =>
        cases hs
        refine .inr (.inr (main _ fun G1 P1 H1 v st1 s1 rp p1 => ?_))
        cases rp with
        | str => exact ⟨z, rfl, fin _ G1 P1 H1 _ st1 s1 p1 (wk_str z) fun _ _ _ _ => trivial⟩
      | _ => cases hs
    · cases e
  · rename_i i xs r1 h1
    split at e
    · rename_i xs' hr
      cases e
      refine .inl (tE_at st h1 fun v G1 H1 P1 A st1 s1 res hA hp => ?_)
      obtain ⟨_, B, o, hB⟩ := res
      obtain ⟨w, hw, ow⟩ := st1.sl i _ hr
      cases o with
      | ow o1 o2 o3 o4 =>
        cases ow with
        | ow q1 q2 q3 q4 =>
          have hp1 := hB _ ((o4 _).mpr rfl)
          have he := (q4 _).mp hp1
          subst he
          cases o3 with
          | lst rs =>
            have st2 : Sst C G1 H1 (Pno P1 i) (hideE (some (i, .ow (.lst ds))) r') σ := by
              refine ⟨by simp only [hideE]; rw [List.length_set]; exact st1.len, st1.gh, fun j t hj => ?_, fun j a hj => ?_, fun j k a h1 h2 => st1.dj j k a h1.2 h2.2⟩
              · simp only [hideE] at hj
                rcases getSet hj with ⟨_, z, _⟩ | ⟨hne, hj⟩
                · cases z
                · obtain ⟨u, h1, h2⟩ := st1.sl j t hj
                  refine ⟨u, h1, ?_⟩
                  have : Pno P1 i j = P1 j := by
                    funext a
                    exact propext ⟨fun h => h.2, fun h => ⟨hne.symm, h⟩⟩
                  rw [this]; exact h2
              · obtain ⟨t, ht⟩ := st1.pe j a hj.2
                exact ⟨t, by simp only [hideE]; rw [List.getElem?_set_ne (Ne.symm hj.1)]; exact ht⟩
            have hno : ∀ j, ¬ Pno P1 i j _ := fun j z => z.1 (st1.dj _ _ _ z.2 hp1)
            refine ⟨_, rfl, ⟨_, SqL.of o1⟩, k _ G1 H1 (Pno P1 i) _ st2 (s1.sub fun _ _ z => z.2) hp (wk_list rs) (SqL.of o1) (fun G2 H2 P2 s2 g2 => SqL.of (s2.kp _ _ o1 hno)) ?_⟩
            refine ⟨_, P1 i, hw, .ow o1 q2 (.lst rs) q4, fun j a ha z => z.1 (st1.dj _ _ _ z.2 ha), fun a ha => s1.pp i a ha⟩
    · cases e
  · cases e
def Es.len : Es → Nat
  | .nil => 0
  | .cons _ es => es.len + 1
theorem evu_len : ∀ {es : Es} {r r' : Env} {ds : List D}, evu es r = .ok ds r' → ds.length = es.len
  | .nil, r, r', ds, h => by simp only [evu] at h; cases h; rfl
  | .cons e es, r, r', ds, h => by
    simp only [evu] at h
    split at h
    · split at h
      · rename_i ds2 r2 h2
        cases h
        simp [Es.len, evu_len h2]
      · cases h
    · cases h
theorem gi_rng1 (hg : Gl X "range") (hm : X.mg "range" = none) (hn : notStar e = true) (he : PE X e (tE C ee)) : PI X tg (.Call (.Name "range" p) [e] [] pos) (tI C (.rng (.cons ee .nil))) := by
  refine PI.imp (pi_range1 hg hm (gu_cons hn he gu_nil) (star_cons hn)) fun σ H R ⟨G, P, r, ds, hid, r', st, e, k⟩ => ?_
  simp only [evi] at e
  split at e
  · rename_i xs r1 h1
    split at e
    · rename_i ds2 hs
      cases e
      have hl := evu_len h1
      refine ⟨G, P, r, xs, _, st, h1, fun vs G1 H1 P1 st1 s1 ps p1 => ?_⟩
      simp only [rngD] at hs
      split at hs
      · split at hs
        · rename_i n hn
          cases hs
          obtain ⟨v, rfl, u⟩ := one_of ps
          cases u.int
          refine ⟨n, rfl, by omega, by omega, k _ G1 H1 P1 (fun _ => True) st1 s1 p1 ?_ trivial (fun _ _ _ _ _ => trivial) trivial⟩
          have w := wk_range (C := C) (G := G1) (lo := 0) (n := n.toNat)
          simpa using w
        · cases hs
      · simp [Es.len] at hl
      · cases hs
    · cases e
  · cases e
theorem gi_rng2 (hg : Gl X "range") (hm : X.mg "range" = none) (hn : notStar e = true) (hn2 : notStar e2 = true) (he : PE X e (tE C ee)) (he2 : PE X e2 (tE C ee2)) : PI X tg (.Call (.Name "range" p) [e, e2] [] pos) (tI C (.rng (.cons ee (.cons ee2 .nil)))) := by
  refine PI.imp (pi_range2 hg hm (gu_cons hn he (gu_cons hn2 he2 gu_nil)) (by rw [star_cons hn, star_cons hn2]; rfl) (by rw [star_cons hn2]; rfl)) fun σ H R ⟨G, P, r, ds, hid, r', st, e, k⟩ => ?_
  simp only [evi] at e
  split at e
  · rename_i xs r1 h1
    split at e
    · rename_i ds2 hs
      cases e
      have hl := evu_len h1
      refine ⟨G, P, r, xs, _, st, h1, fun vs G1 H1 P1 st1 s1 ps p1 => ?_⟩
      simp only [rngD] at hs
      split at hs
      · simp [Es.len] at hl
      · split at hs
        · rename_i n m hn
          cases hs
          obtain ⟨v, w, rfl, u, u2⟩ := two_of ps
          cases u.int; cases u2.int
          exact ⟨n, m, rfl, ⟨by omega, by omega, by omega, by omega⟩, k _ G1 H1 P1 (fun _ => True) st1 s1 p1 wk_range trivial (fun _ _ _ _ _ => trivial) trivial⟩
        · cases hs
      · cases hs
    · cases e
  · cases e
theorem gi_enu {elts : List Expr} {kk : Nat} (hK : X.K = C.K) (hg : Gl X "enumerate") (hm : X.mg "enumerate" = none) (hn : notStar e = true) (he : PE X e (tE C ee)) : PI X (.Tuple elts kk tpos) (.Call (.Name "enumerate" p) [e] [] pos) (tI C (.enu ee)) := by
  refine PI.imp (pi_enum hg hm (pa_cons he pa_nil (star_cons hn)) (star_cons hn)) fun σ H R ⟨G, P, r, ds, hid, r', st, e, k⟩ => ?_
  simp only [evi] at e
  split at e
  · rename_i x r1 h1
    split at e
    · rename_i xs hx
      cases e
      refine tE_settle st h1 fun v1 G1 P1 H1 st1 s1 rp p1 => ?_
      rw [hx] at rp
      cases rp with
      | lst h rs => exact ⟨_, _, rfl, SqL.of (st1.gh _ _ h), k _ G1 H1 P1 _ st1 s1 p1 (wk_enum rs) (SqL.of (st1.gh _ _ h)) (fun G2 H2 P2 s2 g2 => SqL.of (g2 _ _ (s2.gg _ _ h))) trivial⟩
    · cases e
  · cases e
theorem gi_zip {elts : List Expr} {kk : Nat} (hK : X.K = C.K) (hg : Gl X "zip") (hm : X.mg "zip" = none) (hn : notStar e = true) (hn2 : notStar e2 = true) (he : PE X e (tE C ee)) (he2 : PE X e2 (tE C ee2)) :
    PI X (.Tuple elts kk tpos) (.Call (.Name "zip" p) [e, e2] [] pos) (tI C (.zip ee ee2)) := by
  refine PI.imp (pi_zip hg hm (pa_cons he (pa_cons he2 pa_nil (star_cons hn2)) (star_cons hn)) (star_cons hn) (star_no (by simp [noStars, hn2]))) fun σ H R ⟨G, P, r, ds, hid, r', st, e, k⟩ => ?_
  simp only [evi] at e
  split at e
  · rename_i x r1 h1
    split at e
    · rename_i y r2 h2
      split at e
      · rename_i xs ys hx hy
        cases e
        refine tE_settle st h1 fun v1 G1 P1 H1 st1 s1 rp p1 => ?_
        refine tE_settle st1 h2 fun v2 G2 P2 H2 st2 s2 rp2 p2 => ?_
        rw [hx] at rp
        rw [hy] at rp2
        cases rp with
        | lst h rs =>
          cases rp2 with
          | lst h' rs' =>
            have hh := s2.gg _ _ h
            exact ⟨_, _, _, _, rfl, SqL.of (st2.gh _ _ hh), SqL.of (st2.gh _ _ h'), k _ G2 H2 P2 _ st2 (s1.trans s2) (fun h => (p1 (andT h).1).trans (p2 (andT h).2)) (wk_zip (Reps.mono s2.gg rs) rs') ⟨SqL.of (st2.gh _ _ hh), SqL.of (st2.gh _ _ h')⟩
              (fun G3 H3 P3 s3 g3 => ⟨SqL.of (g3 _ _ (s3.gg _ _ hh)), SqL.of (g3 _ _ (s3.gg _ _ h'))⟩) trivial⟩
      · cases e
    · cases e
  · cases e
end

/-! ### comprehensions -/
def tCd (C : Ct) (cd : Oe) : TT := fun σ H Q => ∃ G P r b r', Sst C G H P r σ ∧ evc cd r = some (b, r') ∧ ∀ G' H' P', Sst C G' H' P' r' σ → Stp G H P G' H' P' → (cd.pu = true → Same H H') → Q b H'
section
variable {X : Cx} {C : Ct} {e e2 tg iter elt i : Expr} {ifs : List Expr} {ee ei : E} {it : FJ.It} {cd : Oe} {tgt : Tg} {p pos tpos : Pos}
theorem gc_no : PTs X [] (tCd C .no) := by
  refine PTs.imp pts_nil fun σ H Q ⟨G, P, r, b, r', st, e, k⟩ => ?_
  simp only [evc] at e
  cases e
  exact k G H P st (Stp.refl ..) fun _ => Same.refl _
theorem gc_so (h : PT X i (tT C ei)) : PTs X [i] (tCd C (.so ei)) := by
  refine PTs.imp (pts_one h) fun σ H Q ⟨G, P, r, b, r', st, e, k⟩ => ?_
  simp only [evc] at e
  exact ⟨G, P, r, b, r', st, e, k⟩
theorem lc_read {σ : St} {H : Hp} {Q : VK} (q : tE C (.comp ee tgt it cd) σ H Q) : tLc (tI C it) (tG C tgt) (tCd C cd) (tE C ee) tgt.slots σ H Q := by
  obtain ⟨G, P, r, y, r', st, e, k⟩ := q
  simp only [ev] at e
  split at e
  · rename_i ds hid r0 hev
    split at e
    · rename_i hst
      split at e
      · rename_i dsf rf hcl
        cases e
        refine ⟨G, P, r, ds, hid, r0, st, hev, fun J G1 H1 P1 Gd st1 s1 p1 wk g1 gst hdn D hD => ?_⟩
        obtain ⟨Y, w, items⟩ := wk
        have hGD : G1 D = none := Same.no st1.gh hD
        have hPD : ∀ j, ¬ P1 j D := fun j hj => (st1.dom hj).2 hD
        refine lc_it w (fun i H' => ∃ G' P' r' accD acc, Sst C G' H' P' r' (wipe σ tgt.slots) ∧ Stp G1 H1 P1 G' H' P' ∧ (ee.pu = true → cd.pu = true → Same H1 H') ∧ H' D = some (.lst acc) ∧ G' D = none ∧ (∀ j, ¬ P' j D) ∧ Reps C G' accD acc ∧
          compL (fun r => evc cd r) (fun r => ev ee r) tgt (ds.drop i) r' accD = .ok dsf rf) ?_ ?_ ?_ ?_
        · refine ⟨G1, Pout P1 tgt.slots, _, [], [], (st1.wipe tgt.slots).updD hGD fun j z => hPD j z.2, ((Stp.refl G1 H1 P1).sub fun _ _ z => z.2).updN hD, fun _ _ => Same.nu hD, upd_same, hGD, fun j z => hPD j z.2, .nil, by rw [List.drop_zero]; exact hcl⟩
        · rintro i H' _ ⟨G', P', r', accD, acc, st', s', _, _, _, _, _, _⟩
          exact gst G' H' P' s' st'.gh
        · rintro i x H2 H3 hi ⟨G', P', r2, accD, acc, st', s', pu', hL, hGL, hPL, rs, hc⟩ hY
          obtain ⟨d, G3, hd, gr, rp⟩ := items i _ _ _ hi hY G' s'.gg st'.gh
          rw [List.drop_eq_getElem_cons hi, (List.getElem?_eq_some_iff.mp hd).2] at hc
          simp only [compL] at hc
          cases hb : tgt.bind d r2 with
          | none => rw [hb] at hc; cases hc
          | some r3 =>
            rw [hb] at hc
            simp only at hc
            have stg := st'.grow gr
            have sg := s'.trans (Stp.grow gr)
            have hG3 : G3 D = none := by
              by_cases hz : G3 D = none
              · exact hz
              · have := gr.nw D hGL hz; rw [hL] at this; cases this
            refine ⟨G3, P', r2, d, r3, stg, rp, hb, fun σ2 P2 st2 hsub hfr => ⟨?_, ?_⟩⟩
            · have := hfr.wipe
              rw [this]
              apply List.ext_getElem?
              intro j
              by_cases hj : j ∈ tgt.slots
              · rw [wipe_in hj, wipe_in hj, wipe_length]
              · rw [wipe_out hj]
            have hwi : wipe σ2 tgt.slots = wipe σ tgt.slots := by
              rw [hfr.wipe]
              apply List.ext_getElem?
              intro j
              by_cases hj : j ∈ tgt.slots
              · rw [wipe_in hj, wipe_in hj, wipe_length]
              · rw [wipe_out hj]
            have s2 : Stp G1 H1 P1 G3 H3 P2 := sg.sub hsub
            have hL3 := gr.hh _ _ hL
            have hP2 : ∀ j, ¬ P2 j D := fun j z => hPL j (hsub j D z)
            cases hcf : evc cd r3 with
            | none => rw [hcf] at hc; cases hc
            | some q =>
              obtain ⟨b, r4⟩ := q
              rw [hcf] at hc
              refine ⟨G3, P2, r3, b, r4, st2, hcf, fun G4 H4 P4 st4 s4 p4 => ?_⟩
              obtain ⟨hL4, hG4, hP4⟩ := s4.stays hL3 hP2 hG3
              cases b with
              | false =>
                simp only at hc
                refine ⟨G4, Pout P4 tgt.slots, _, accD, acc, by rw [← hwi]; exact st4.wipe _, (s2.trans s4).sub fun _ _ z => z.2, fun h1 h2 => ((pu' h1 h2).trans gr.hh).trans (p4 h2), hL4, hG4, fun j z => hP4 j z.2, Reps.mono (gr.gg.trans s4.gg) rs, hc⟩
              | true =>
                simp only at hc
                cases hef : ev ee r4 with
                | stuck => rw [hef] at hc; cases hc
                | ok y r5 =>
                  rw [hef] at hc
                  simp only at hc
                  split at hc
                  · rename_i hlen
                    show tE C ee σ2 H4 _
                    refine tE_settle st4 hef fun v5 G5 P5 H5 st5 s5 rp5 p5 => ?_
                    obtain ⟨hL5, hG5, hP5⟩ := s5.stays hL4 hP4 hG4
                    have rs5 := Reps.mono ((gr.gg.trans s4.gg).trans s5.gg) rs
                    refine ⟨acc, hL5, by rw [← Reps.length rs]; exact hlen, G5, Pout P5 tgt.slots, _, accD ++ [y.toD], acc ++ [v5], ?_, ?_, ?_, upd_same, hG5, fun j z => hP5 j z.2, Reps.app rs5 (Reps.one rp5), hc⟩
                    · rw [← hwi]
                      exact (st5.wipe _).updD hG5 fun j z => hP5 j z.2
                    · exact (((s2.trans s4).trans s5).sub fun _ _ z => z.2).updN hD
                    · intro h1 h2
                      have := (((pu' h1 h2).trans gr.hh).trans (p4 h2)).trans (p5 h1)
                      exact fun a u e => by rw [upd_ne (ne_of_none e hD)]; exact this a u e
                  · cases hc
        · rintro H' ⟨G', P', r2, accD, acc, st', s', pu', hL, hGL, hPL, rs, hc⟩
          rw [List.drop_length] at hc
          simp only [compL] at hc
          cases hc
          have sb := Sst.back st1 hst st' s'
          obtain ⟨P3, st3, hP3⟩ := sb.show (s'.sub fun _ _ z => z.2) hdn fun _ _ _ => rfl
          have nD : ∀ j, ¬ P3 j D := fun j z => (hP3 j D z).elim (fun z => hPL j z.2) fun z => z.1 hD
          refine k (.ref D) G' H' P3 (fun a => a = D) st3 ((s1.trans s').setP fun j a z => ?_) ⟨.ow hL hGL (.lst rs) fun _ => Iff.rfl, fun j a z => by rw [z]; exact nD j⟩ (fun a z => .inr (by rw [z]; exact s1.ld D hD)) fun h => ?_
          · exact (hP3 j a z).elim (fun z => .inl z.2) fun z => .inr z.2
          · exact (p1 (andT (andT h).2).1).trans (pu' (andT h).1 (andT (andT h).2).2)
      · cases e
    · cases e
  · cases e
theorem ge_comp {scope : Scope} {own : List (Str × Nat)} (hc : X.calm = true) (hN : X.N.Nodup) (hi : PI X tg iter (tI C it)) (ok : BlkOk X.N X.env.scope scope own) (ho : own.map (·.2) = tgt.slots)
    (hg : ∀ (s : Shared) (H : Hp) (Ca : Addr) (cl : List (Str × Addr)) (fp : List Addr), PG (X.blk s H scope (compEnvC scope cl Ca X.env) fp) tg (tG C tgt))
    (ht : ∀ (s : Shared) (H : Hp) (Ca : Addr) (cl : List (Str × Addr)) (fp : List Addr), PTs (X.blk s H scope (compEnvC scope cl Ca X.env) fp) ifs (tCd C cd))
    (he : ∀ (s : Shared) (H : Hp) (Ca : Addr) (cl : List (Str × Addr)) (fp : List Addr), PE (X.blk s H scope (compEnvC scope cl Ca X.env) fp) elt (tE C ee)) (hs : ∀ x, foldedSetIterable iter X.env x = pure x) :
    PE X (.ListComp elt [⟨tg, iter, ifs, 0⟩] scope pos) (tE C (.comp ee tgt it cd)) :=
  PE.imp (pe_lc hc hN hi ok hg ht he hs) fun σ H Q q => by rw [ho]; exact lc_read q
end
end FJ

/-! Statements. -/
namespace FJ
open PySem L2

def OutOk (C : Ct) (D : Ends) (G H : Hp) (P : Nat → Addr → Prop) (σ : St) (as : List Nat) : O → Prop
  | .nx r' => ∀ σ' G' H' P', Sst C G' H' P' r' σ' → Stp G H P G' H' P' → Fr as σ σ' → D.nx σ' H'
  | .bk r' => ∀ σ' G' H' P', Sst C G' H' P' r' σ' → Stp G H P G' H' P' → Fr as σ σ' → D.bk σ' H'
  | .ct r' => ∀ σ' G' H' P', Sst C G' H' P' r' σ' → Stp G H P G' H' P' → Fr as σ σ' → D.ct σ' H'
  | .rt t r' => ∀ v σ' G' H' P' A, Sst C G' H' P' r' σ' → Stp G H P G' H' P' → Own C G' H' t v A → (∀ i a, A a → ¬ P' i a) → (∀ a, A a → (∃ j, P j a) ∨ H a = none) → Fr as σ σ' → D.rt v H'
  | .stuck => False
def tS (C : Ct) (s : S) : TS := fun D σ H => ∃ G P r, Sst C G H P r σ ∧ OutOk C D G H P σ s.asgs (evS s r)
section
variable {C : Ct} {G H G' H' G1 H1 : Hp} {P P' P1 P2 : Nat → Addr → Prop} {r r' : Env} {σ σ' : St} {A B : Addr → Prop} {x : Val} {v : V} {t : T} {d : D} {Q : VK} {as bs : List Nat} {E E' : Ends} {o : O}
theorem Fr.mono (f : Fr as σ σ') (h : ∀ i, i ∈ as → i ∈ bs) : Fr bs σ σ' := ⟨f.1, fun i hi => f.2 i fun z => hi (h i z)⟩
theorem Fr.comp {σ'' : St} (a : Fr as σ σ') (b : Fr as σ' σ'') : Fr as σ σ'' := ⟨b.1.trans a.1, fun i h => (b.2 i h).trans (a.2 i h)⟩
theorem Stp.base (s : Stp G H P G' H' P') (h : (∃ j, P' j a) ∨ H' a = none) : (∃ j, P j a) ∨ H a = none := h.elim (fun ⟨j, hj⟩ => s.pp j a hj) fun z => .inr (s.ld a z)
theorem OutOk.step (s : Stp G H P G1 H1 P1) {σ1 : St} (f : Fr bs σ σ1) (hb : ∀ i, i ∈ bs → i ∈ as) {cs : List Nat} (hc : ∀ i, i ∈ cs → i ∈ as) (h : OutOk C E G H P σ as o) : OutOk C E G1 H1 P1 σ1 cs o := by
  cases o with
  | nx r => exact fun σ' G' H' P' st' s' f' => h σ' G' H' P' st' (s.trans s') ((f.mono hb).comp (f'.mono hc))
  | bk r => exact fun σ' G' H' P' st' s' f' => h σ' G' H' P' st' (s.trans s') ((f.mono hb).comp (f'.mono hc))
  | ct r => exact fun σ' G' H' P' st' s' f' => h σ' G' H' P' st' (s.trans s') ((f.mono hb).comp (f'.mono hc))
  | rt t r => exact fun v σ' G' H' P' A st' s' o' n' b' f' => h v σ' G' H' P' A st' (s.trans s') o' n' (fun a ha => s.base (b' a ha)) ((f.mono hb).comp (f'.mono hc))
  | stuck => exact h
/-- a state within a block goes on -/
theorem tS_at {s : S} (st : Sst C G H P r σ) (h : OutOk C E G H P σ s.asgs (evS s r)) : tS C s E σ H := ⟨G, P, r, st, h⟩
end

section
variable {X : Cx} {C : Ct} {e e2 c tg iter : Expr} {ee ec ek : E} {it : FJ.It} {tgt : Tg} {p pos tpos : Pos} {a b : List Stmt} {sa sb : S} {st1 : Stmt}
theorem gs_pass : PS X (.Pass pos) (tS C .pass) := PS.imp ps_pass fun D σ H ⟨G, P, r, st, k⟩ => k σ G H P st (Stp.refl ..) Fr.refl
theorem gss_nil : PSs X [] (tS C .pass) := PSs.imp pss_nil fun D σ H ⟨G, P, r, st, k⟩ => k σ G H P st (Stp.refl ..) Fr.refl
theorem gs_brk : PS X (.Break pos) (tS C .brk) := PS.imp ps_break fun D σ H ⟨G, P, r, st, k⟩ => k σ G H P st (Stp.refl ..) Fr.refl
theorem gs_cont : PS X (.Continue pos) (tS C .cont) := PS.imp ps_continue fun D σ H ⟨G, P, r, st, k⟩ => k σ G H P st (Stp.refl ..) Fr.refl
theorem gs_retN : PS X (.Return none pos) (tS C .retN) := PS.imp ps_retN fun D σ H ⟨G, P, r, st, k⟩ => k .non σ G H P (fun _ => False) st (Stp.refl ..) (.fr .non fun _ z => z) (fun _ _ z => z.elim) (fun _ z => z.elim) Fr.refl
theorem gss_one (h : PS X st1 (tS C sa)) : PSs X [st1] (tS C sa) := pss_one h
theorem gss_cons (h : PS X st1 (tS C sa)) (h2 : PSs X b (tS C sb)) : PSs X (st1 :: b) (tS C (.seq sa sb)) := by
  refine PSs.imp (pss_cons h h2) fun D σ H ⟨G, P, r, st, k⟩ => ?_
  refine tS_at st ?_
  simp only [evS] at k
  have k' : OutOk C D G H P σ (sa.asgs ++ sb.asgs) ((evS sa r).seq fun r => evS sb r) := k
  have hl : ∀ i, i ∈ sa.asgs → i ∈ sa.asgs ++ sb.asgs := fun i h => List.mem_append_left _ h
  cases hs : evS sa r with
  | nx r1 =>
    rw [hs] at k'
    exact fun σ' G' H' P' st' s' f' => tS_at st' (k'.step s' f' hl fun i h => List.mem_append_right _ h)
  | bk r1 =>
    rw [hs] at k'
    exact fun σ' G' H' P' st' s' f' => k' σ' G' H' P' st' s' (f'.mono hl)
  | ct r1 =>
    rw [hs] at k'
    exact fun σ' G' H' P' st' s' f' => k' σ' G' H' P' st' s' (f'.mono hl)
  | rt t r1 =>
    rw [hs] at k'
    exact fun v σ' G' H' P' A st' s' o n b f' => k' v σ' G' H' P' A st' s' o n b (f'.mono hl)
  | stuck => rw [hs] at k'; exact k'
theorem gs_expr (hs : swapsWith e none pos.line X.env = pure false) (he : PE X e (tE C ee)) : PS X (.Expr e pos) (tS C (.expr ee)) := by
  refine PS.imp (ps_expr he hs) fun D σ H ⟨G, P, r, st, k⟩ => ?_
  simp only [evS] at k
  split at k
  · rename_i x r1 h1
    exact tE_at st h1 fun v G' H' P' A st' s' _ _ _ => k σ G' H' P' st' s' Fr.refl
  · exact k.elim
theorem gs_if (hc : PT X c (tT C ec)) (ha : PSs X a (tS C sa)) (hb : PSs X b (tS C sb)) : PS X (.If c a b pos) (tS C (.ife ec sa sb)) := by
  refine PS.imp (ps_if hc ha hb) fun D σ H ⟨G, P, r, st, k⟩ => ?_
  simp only [evS] at k
  split at k
  · rename_i r1 h1
    exact ⟨G, P, r, true, r1, st, h1, fun G1 H1 P1 st1 s1 _ => tS_at st1 (k.step s1 Fr.refl (fun i h => h) fun i h => by simp only [S.asgs]; exact List.mem_append_left _ h)⟩
  · rename_i r1 h1
    exact ⟨G, P, r, false, r1, st, h1, fun G1 H1 P1 st1 s1 _ => tS_at st1 (k.step s1 Fr.refl (fun i h => h) fun i h => by simp only [S.asgs]; exact List.mem_append_right _ h)⟩
  · exact k.elim
theorem gs_ret (he : PE X e (tE C ee)) : PS X (.Return (some e) pos) (tS C (.ret ee)) := by
  refine PS.imp (ps_ret he) fun D σ H ⟨G, P, r, st, k⟩ => ?_
  simp only [evS] at k
  split at k
  · rename_i t r1 h1
    exact tE_at st h1 fun v G' H' P' A st' s' res hA _ => k v σ G' H' P' A st' s' res.1 res.2 hA Fr.refl
  · rename_i i t r1 h1
    exact tE_settle st h1 fun v G' P' H' st' s' rp _ => k v σ G' H' P' (fun _ => False) st' s' (.fr rp fun _ z => z) (fun _ _ z => z.elim) (fun _ z => z.elim) Fr.refl
  · exact k.elim
theorem gs_retv {i : Nat} (he : PE X e (tVar i)) : PS X (.Return (some e) pos) (tS C (.retv i)) := by
  refine PS.imp (ps_ret he) fun D σ H ⟨G, P, r, st, k⟩ => ?_
  simp only [evS] at k
  split at k
  · rename_i t ht
    obtain ⟨v, h1, h2⟩ := st.sl i t ht
    refine ⟨v, h1, k v σ G H (Pno P i) (P i) ⟨by rw [List.length_set]; exact st.len, st.gh, fun j t hj => ?_, fun j a hj => ?_, fun j k a h1 h2 => st.dj j k a h1.2 h2.2⟩ ((Stp.refl ..).sub fun _ _ z => z.2) h2 (fun j a ha z => z.1 (st.dj _ _ _ z.2 ha)) (fun a ha => .inl ⟨i, ha⟩) Fr.refl⟩
    · rcases getSet hj with ⟨_, z, _⟩ | ⟨hne, hj⟩
      · cases z
      · obtain ⟨u, h1, h2⟩ := st.sl j t hj
        refine ⟨u, h1, ?_⟩
        have : Pno P i j = P j := by
          funext a
          exact propext ⟨fun h => h.2, fun h => ⟨hne.symm, h⟩⟩
        rw [this]; exact h2
    · obtain ⟨t, ht⟩ := st.pe j a hj.2
      exact ⟨t, by rw [List.getElem?_set_ne (Ne.symm hj.1)]; exact ht⟩
  · exact k.elim
theorem mem1 {i : Nat} : ∀ j, j ∈ (Tg.name i).slots → j ∈ [i] := fun j h => by simpa [Tg.slots] using h
/-- name = e -/
theorem set_read {i : Nat} {D : Ends} {σ : St} {H : Hp} (q : tS C (.asg (.name i) ee) D σ H) : tAsg (tE C ee) (gName i) D σ H := by
  obtain ⟨G, P, r, st, k⟩ := q
  simp only [evS] at k
  split at k
  · rename_i x r1 h1
    split at k
    · rename_i r2 h2
      cases x with
      | v t =>
        simp only [asgE] at h2
        split at h2
        · rename_i o ho
          cases h2
          refine tE_at st h1 fun v G1 H1 P1 A st1 s1 res hA _ => ?_
          obtain ⟨ow, n⟩ := res
          refine k _ G1 H1 (Pput P1 i A) (st1.put ow (fun j a ha _ => n j a ha) (by rw [← st1.len]; exact ltOf ho)) (s1.setP fun j a z => ?_) (by simp only [S.asgs, Tg.slots]; exact Fr.set)
          exact z.elim (fun z => .inr (hA a z.2)) fun z => .inl z.2
        · cases h2
      | b j t =>
        simp only [asgE, Tg.bind] at h2
        cases h2
        refine tE_settle st h1 fun v G1 P1 H1 st1 s1 rp _ => ?_
        exact k _ G1 H1 _ (st1.putF i rp) (s1.sub Pput_sub) (by simp only [S.asgs, Tg.slots]; exact Fr.set)
    · exact k.elim
  · exact k.elim
/-- a target of any form -/
theorem asg_read {D : Ends} {σ : St} {H : Hp} (hn : ∀ i, tgt ≠ .name i) (q : tS C (.asg tgt ee) D σ H) : tAsg (tE C ee) (tG C tgt) D σ H := by
  obtain ⟨G, P, r, st, k⟩ := q
  simp only [evS] at k
  split at k
  · rename_i x r1 h1
    split at k
    · rename_i r2 h2
      have h3 : tgt.bind x.toD (useE false x r1) = some r2 := by
        unfold asgE at h2
        split at h2
        · exact (hn _ rfl).elim
        · exact h2
      refine tE_settle st h1 fun v G1 P1 H1 st1 s1 rp _ => ?_
      exact ⟨G1, P1, _, _, r2, st1, rp, h3, fun σ' P' st' hs f => k σ' G1 H1 P' st' (s1.sub hs) (by simp only [S.asgs]; exact f)⟩
    · exact k.elim
  · exact k.elim
theorem gs_set {i : Nat} {x : Str} {pos' : Pos} (hN : X.N.Nodup) (hi : X.N[i]? = some x) (hx : Loc X.env.scope x) (hf : X.fn x = true ∨ X.env.scope.names.lookup x = some .local) (he : PE X e (tE C ee)) (hs : swapsWith e (some (.Name x pos')) pos.line X.env = pure false) :
    PS X (.Assign [.Name x pos'] e pos) (tS C (.asg (.name i) ee)) := PS.imp (ps_set hN hi hx he hs hf) fun D σ H q => set_read q
theorem gs_asg {ts : List Expr} {kk : Nat} (hn : ∀ i, tgt ≠ .name i) (he : PE X e (tE C ee)) (hg : PG X (.Tuple ts kk tpos) (tG C tgt)) (h1 : isTup e = false) (h2 : isComp e = false) : PS X (.Assign [.Tuple ts kk tpos] e pos) (tS C (.asg tgt ee)) := by
  refine PS.imp (ps_asg he hg ?_ ?_ rfl) fun D σ H q => asg_read hn q
  · cases e <;> first | rfl | (simp [isComp] at h2)
  · cases e <;> first | rfl | (simp [isTup] at h1)
theorem gs_par {i j : Nat} {x y : Str} {a b : Expr} {ea eb : E} {px py pt : Pos} {kt k2 : Nat} {pt2 : Pos} (hc : X.calm = true) (hN : X.N.Nodup) (hi : X.N[i]? = some x) (hj : X.N[j]? = some y) (hij : i ≠ j)
    (hx : X.env.scope.names.lookup x = some .local) (hy : X.env.scope.names.lookup y = some .local) (hna : notStar a = true) (hnb : notStar b = true) (ha : PE X a (tE C ea)) (hb : PE X b (tE C eb))
    (hw : swappedStores [.Tuple [.Name x px, .Name y py] kt pt] (.Tuple [a, b] k2 pt2) X.env = pure (some [x, y])) :
    PS X (.Assign [.Tuple [.Name x px, .Name y py] kt pt] (.Tuple [a, b] k2 pt2) pos) (tS C (.asg (.tup [.name i, .name j]) (.tup (.cons ea (.cons eb .nil))))) := by
  refine PS.imp (ps_par hc hN hi hj hij hx hy (ga_cons hna ha (ga_cons hnb hb ga_nil)) hw) fun D σ H ⟨G, P, r, st, k⟩ => ?_
  simp only [evS, ev] at k
  split at k
  · rename_i x1 r1 h1
    split at h1
    · rename_i ds r2 h2
      split at h1
      · cases h1
        split at k
        · rename_i r3 h3
          refine ⟨G, P, r, ds, _, st, h2, fun vs G1 H1 P1 st1 s1 rs p1 => ?_⟩
          simp only [asgE, Val.toD, T.toD, useE, Tg.bind] at h3
          cases rs with
          | nil => simp only [Tg.binds] at h3; cases h3
          | cons r1 rs =>
            cases rs with
            | nil => simp only [Tg.binds, Tg.bind] at h3; cases h3
            | cons r2 rs =>
              cases rs with
              | cons _ _ => simp only [Tg.binds, Tg.bind] at h3; cases h3
              | nil =>
                simp only [Tg.binds, Tg.bind] at h3
                cases h3
                refine ⟨_, _, rfl, k _ G1 H1 _ ((st1.putF i r1).putF j r2) (s1.sub fun j a z => Pput_sub _ _ (Pput_sub _ _ z)) ?_⟩
                simp only [S.asgs, Tg.slots, Tg.slotss]
                exact (Fr.set (i := i)).trans ((Fr.set (i := j)).mono (by simp))
        · exact k.elim
      · cases h1
    · cases h1
  · exact k.elim
theorem gs_aug {i : Nat} {x : Str} {o : Operator} {bo : Bop} {pos' : Pos} (ho : o = opOf bo) (hN : X.N.Nodup) (hi : X.N[i]? = some x) (hx : Loc X.env.scope x) (hf : X.fn x = true ∨ X.env.scope.names.lookup x = some .local) (he : PE X e (tE C ee)) (hb : bo = .add ∨ bo = .sub) :
    PS X (.AugAssign (.Name x pos') o e pos) (tS C (.aug i bo ee)) := by
  subst ho
  rcases hb with rfl | rfl
  · refine PS.imp (ps_aug hN hi hx he ip_add hf) fun D σ H ⟨G, P, r, st, k⟩ => ?_
    simp only [evS] at k
    split at k
    · rename_i n hn
      split at k
      · rename_i y r1 h1
        split at k
        · rename_i m _ hm
          obtain ⟨v, h2, h3⟩ := st.sl i _ hn
          cases h3 with
          | fr rp _ =>
            cases rp.inti
            refine ⟨_, h2, tE_settle st h1 fun w G1 P1 H1 st1 s1 rp1 _ => ?_⟩
            rw [hm] at rp1
            cases rp1.inti
            exact ⟨n, m, rfl, rfl, k _ G1 H1 _ (st1.putF i .int) (s1.sub Pput_sub) (by simp only [S.asgs]; exact Fr.set)⟩
        · exact Bop.noConfusion (by assumption : Bop.add = Bop.sub)
        · exact k.elim
      · exact k.elim
    · exact k.elim
  · refine PS.imp (ps_aug hN hi hx he ip_sub hf) fun D σ H ⟨G, P, r, st, k⟩ => ?_
    simp only [evS] at k
    split at k
    · rename_i n hn
      split at k
      · rename_i y r1 h1
        split at k
        · exact Bop.noConfusion (by assumption : Bop.sub = Bop.add)
        · rename_i m _ hm
          obtain ⟨v, h2, h3⟩ := st.sl i _ hn
          cases h3 with
          | fr rp _ =>
            cases rp.inti
            refine ⟨_, h2, tE_settle st h1 fun w G1 P1 H1 st1 s1 rp1 _ => ?_⟩
            rw [hm] at rp1
            cases rp1.inti
            exact ⟨n, m, rfl, rfl, k _ G1 H1 _ (st1.putF i .int) (s1.sub Pput_sub) (by simp only [S.asgs]; exact Fr.set)⟩
        · exact k.elim
      · exact k.elim
    · exact k.elim
/-! ### loops -/
theorem gs_for (hp : PassesOwn (model X.prog X.w) X.A X.env X.xe) (hc : X.calm = true) (hi : PI X tg iter (tI C it)) (hg : PG X tg (tG C tgt)) (hb : PSs X b (tS C sb)) (hs : ∀ x, foldedSetIterable iter X.env x = pure x) : PS X (.For tg iter b [] pos) (tS C (.for tgt it sb)) := by
  refine PS.imp (ps_for hp hc hi hg hb hs) fun D σ H ⟨G, P, r, st, k⟩ => ?_
  have k' : OutOk C D G H P σ (tgt.slots ++ sb.asgs) (evS (.for tgt it sb) r) := k
  clear k
  simp only [evS] at k'
  split at k'
  · rename_i ds hid r0 hev
    refine ⟨G, P, r, ds, hid, r0, st, hev, fun J G1 H1 P1 Gd st1 s1 p1 wk g1 gst hdn => ?_⟩
    obtain ⟨Y, w, items⟩ := wk
    generalize hof : forL (fun r => evS sb r) tgt ds (hideE hid r0) = of at k'
    have fin : ∀ r4, of = .nx r4 → ∀ σ' G' H' P', Sst C G' H' P' r4 σ' → Stp G1 H1 P1 G' H' P' → Fr (tgt.slots ++ sb.asgs) σ σ' → D.nx σ' H' := by
      intro r4 e4 σ' G' H' P' st' s' f'
      rw [e4] at k'
      simp only at k'
      split at k'
      · rename_i hfr
        obtain ⟨P3, st3, hP3⟩ := st'.show s' hdn fun i t e => by
          subst e
          refine f'.2 i fun z => ?_
          simp only [freeE, Bool.not_eq_true'] at hfr
          rw [List.contains_iff_mem.mpr z] at hfr
          cases hfr
        exact k' σ' G' H' P3 st3 ((s1.trans s').setP fun j a z => (hP3 j a z).elim .inl fun z => .inr z.2) f'
      · exact k'.elim
    refine for_it w (fun i σ' H' => ∃ G' P' r', Sst C G' H' P' r' σ' ∧ Stp G1 H1 P1 G' H' P' ∧ Fr (tgt.slots ++ sb.asgs) σ σ' ∧ forL (fun r => evS sb r) tgt (ds.drop i) r' = of) ?_ ?_ ?_ ?_
    · exact ⟨G1, P1, _, st1, Stp.refl .., Fr.refl, by rw [List.drop_zero]; exact hof⟩
    · rintro i σ' H' _ ⟨G', P', r', st', s', _, _⟩
      exact gst G' H' P' s' st'.gh
    · rintro i x σ' H2 H3 hi ⟨G', P', r2, st', s', f', hc⟩ hY
      obtain ⟨d, G3, hd, gr, rp⟩ := items i _ _ _ hi hY G' s'.gg st'.gh
      rw [List.drop_eq_getElem_cons hi, (List.getElem?_eq_some_iff.mp hd).2] at hc
      simp only [forL] at hc
      have bad : of = .stuck → False := fun e => by rw [e] at k'; exact k'
      cases hb : tgt.bind d r2 with
      | none => rw [hb] at hc; exact (bad hc.symm).elim
      | some r3 =>
        rw [hb] at hc
        simp only at hc
        refine ⟨G3, P', r2, d, r3, st'.grow gr, rp, hb, fun σ2 P2 st2 hsub hfr => ?_⟩
        have s2 : Stp G1 H1 P1 G3 H3 P2 := (s'.trans (Stp.grow gr)).sub hsub
        have f2 : Fr (tgt.slots ++ sb.asgs) σ σ2 := f'.comp (hfr.mono fun i h => List.mem_append_left _ h)
        refine tS_at st2 ?_
        have hm : ∀ {σ3 : St}, Fr sb.asgs σ2 σ3 → Fr (tgt.slots ++ sb.asgs) σ σ3 := fun f => f2.comp (f.mono fun i h => List.mem_append_right _ h)
        cases hbo : evS sb r3 with
        | nx r4 =>
          rw [hbo] at hc
          exact fun σ4 G4 H4 P4 st4 s4 f4 => ⟨G4, P4, r4, st4, s2.trans s4, hm f4, hc⟩
        | ct r4 =>
          rw [hbo] at hc
          exact fun σ4 G4 H4 P4 st4 s4 f4 => ⟨G4, P4, r4, st4, s2.trans s4, hm f4, hc⟩
        | bk r4 =>
          rw [hbo] at hc
          exact fun σ4 G4 H4 P4 st4 s4 f4 => fin r4 hc.symm σ4 G4 H4 P4 st4 (s2.trans s4) (hm f4)
        | rt t r4 =>
          rw [hbo] at hc
          simp only at hc
          rw [← hc] at k'
          exact fun v σ4 G4 H4 P4 A st4 s4 o4 n4 b4 f4 => k' v σ4 G4 H4 P4 A st4 ((s1.trans s2).trans s4) o4 n4 (fun a ha => (s1.trans s2).base (b4 a ha)) (hm f4)
        | stuck =>
          rw [hbo] at hc
          exact (bad hc.symm).elim
    · rintro σ' H' ⟨G', P', r', st', s', f', hc⟩
      rw [List.drop_length] at hc
      simp only [forL] at hc
      exact fin r' hc.symm σ' G' H' P' st' s' f'
  · exact k'.elim
theorem gs_while {n : Nat} (hp : PassesOwn (model X.prog X.w) X.A X.env X.xe) (hc : PT X c (tT C ec)) (hb : PSs X b (tS C sb)) : PS X (.While c b [] pos) (tS C (.whl n ec sb)) := by
  refine PS.imp (ps_while hp hc hb) fun D σ H ⟨G, P, r, st, k⟩ => ?_
  have k' : OutOk C D G H P σ sb.asgs (evS (.whl n ec sb) r) := k
  clear k
  simp only [evS] at k'
  generalize hof : whlL (fun r => (ev ec r).tru) (fun r => evS sb r) n r = of at k'
  have bad : of = .stuck → False := fun e => by rw [e] at k'; exact k'
  have fin : ∀ r4, of = .nx r4 → ∀ σ' G' H' P', Sst C G' H' P' r4 σ' → Stp G H P G' H' P' → Fr sb.asgs σ σ' → D.nx σ' H' := by
    intro r4 e4 σ' G' H' P' st' s' f'
    rw [e4] at k'
    exact k' σ' G' H' P' st' s' f'
  refine ⟨fun m σ' H' => ∃ G' P' r', Sst C G' H' P' r' σ' ∧ Stp G H P G' H' P' ∧ Fr sb.asgs σ σ' ∧ whlL (fun r => (ev ec r).tru) (fun r => evS sb r) m r' = of, ⟨n, G, P, r, st, Stp.refl .., Fr.refl, hof⟩, ?_⟩
  rintro m σ' H' ⟨G', P', r', st', s', f', hw⟩
  cases m with
  | zero => simp only [whlL] at hw; exact (bad hw.symm).elim
  | succ m =>
    simp only [whlL] at hw
    cases ht : (ev ec r').tru with
    | none => rw [ht] at hw; exact (bad hw.symm).elim
    | some q =>
      obtain ⟨bb, r2⟩ := q
      rw [ht] at hw
      refine ⟨G', P', r', bb, r2, st', ht, fun G2 H2 P2 st2 s2 _ => ?_⟩
      have s2' := s'.trans s2
      cases bb with
      | false =>
        simp only at hw
        exact fin r2 hw.symm σ' G2 H2 P2 st2 s2' f'
      | true =>
        simp only at hw
        refine ⟨fun σ3 H3 => ∃ G3 P3 r3, Sst C G3 H3 P3 r3 σ3 ∧ Stp G H P G3 H3 P3 ∧ Fr sb.asgs σ σ3 ∧ whlL (fun r => (ev ec r).tru) (fun r => evS sb r) m r3 = of, fun σ3 H3 q => ⟨m, Nat.lt_succ_self m, q⟩, ?_⟩
        refine tS_at st2 ?_
        cases hbo : evS sb r2 with
        | nx r4 =>
          rw [hbo] at hw
          exact fun σ4 G4 H4 P4 st4 s4 f4 => ⟨G4, P4, r4, st4, s2'.trans s4, f'.comp f4, hw⟩
        | ct r4 =>
          rw [hbo] at hw
          exact fun σ4 G4 H4 P4 st4 s4 f4 => ⟨G4, P4, r4, st4, s2'.trans s4, f'.comp f4, hw⟩
        | bk r4 =>
          rw [hbo] at hw
          exact fun σ4 G4 H4 P4 st4 s4 f4 => fin r4 hw.symm σ4 G4 H4 P4 st4 (s2'.trans s4) (f'.comp f4)
        | rt t r4 =>
          rw [hbo] at hw
          simp only at hw
          rw [← hw] at k'
          exact fun v σ4 G4 H4 P4 A st4 s4 o4 n4 b4 f4 => k' v σ4 G4 H4 P4 A st4 (s2'.trans s4) o4 n4 (fun a ha => s2'.base (b4 a ha)) (f'.comp f4)
        | stuck =>
          rw [hbo] at hw
          exact (bad hw.symm).elim

/-! ### what is changed in its place -/
theorem Sst.updO {G H : Hp} {P : Nat → Addr → Prop} {r : Env} {σ : St} {i : Nat} {d d' : D} {p : Addr} {o' : HO} (st : Sst C G H P r σ) (hi : r[i]? = some (some (.ow d))) (hp : P i p) (f : Flat C G d' o') :
    Sst C G (upd H p o') P (r.set i (some (.ow d'))) σ ∧ Stp G H P G (upd H p o') P := by
  obtain ⟨hG, hH⟩ := st.dom hp
  refine ⟨⟨by rw [List.length_set]; exact st.len, fun a u e => by rw [upd_ne (fun z => by rw [z, hG] at e; cases e)]; exact st.gh a u e, fun j t hj => ?_, fun j a hj => ?_, st.dj⟩, Same.refl _, fun a u e n => by rw [upd_ne (fun z => n i (by rw [z]; exact hp))]; exact e, fun a e => ?_, fun j a h => .inl ⟨j, h⟩, fun a h n => (n h).elim⟩
  · rcases getSet hj with ⟨rfl, ht, _⟩ | ⟨hne, hj⟩
    · cases ht
      obtain ⟨v, h1, h2⟩ := st.sl i _ hi
      refine ⟨v, h1, ?_⟩
      cases h2 with
      | ow q1 q2 q3 q4 =>
        have := (q4 _).mp hp
        subst this
        exact .ow upd_same q2 f q4
    · obtain ⟨v, h1, h2⟩ := st.sl j t hj
      refine ⟨v, h1, Own.mono (Same.refl G) h2 (fun a h => (Own.dom h2 h).1) fun a u ha e => ?_⟩
      rw [upd_ne (fun z => hne (st.dj _ _ _ hp (by rw [← z]; exact ha)))]; exact e
  · obtain ⟨t, ht⟩ := st.pe j a hj
    by_cases hji : i = j
    · subst hji
      exact ⟨_, List.getElem?_set_self (ltOf hi)⟩
    · exact ⟨t, by rw [List.getElem?_set_ne hji]; exact ht⟩
  · by_cases ha : a = p
    · rw [ha, upd_same] at e; cases e
    · rw [upd_ne ha] at e; exact e
theorem Own.at {G H : Hp} {d : D} {v : V} {A : Addr → Prop} (o : Own C G H (.ow d) v A) : ∃ p o', v = .ref p ∧ H p = some o' ∧ Flat C G d o' ∧ A p := by
  cases o with
  | ow h1 h2 h3 h4 => exact ⟨_, _, rfl, h1, h3, (h4 _).mpr rfl⟩
theorem few1 {e : Expr} {cpos : Pos} (hn : notStar e = true) : ((backTo cpos (starEach [e] X.env)).all (fun x => !x.1) && (backToKw cpos (keywordEach [] X.env)).all (fun x => x.1.isSome)
      && decide (([e] : List Expr).length + ([] : List Keyword).length + (if ([] : List Keyword).isEmpty then 0 else 1) < 30)) = true := by
  rw [star_cons hn]; rfl
theorem gs_app {i : Nat} {x : Str} {np apos cpos : Pos} (hN : X.N[i]? = some x) (hv : Vis X.env.scope x) (hd : (x == ("__debug__" : Str)) = false) (hcd : (x == ("__classdict__" : Str)) = false) (hl : (apos.endLine == cpos.line) = true) (hn : notStar e = true) (he : PE X e (tE C ee)) :
    PS X (.Expr (.Call (.Attribute (.Name x np) "append" apos) [e] [] cpos) pos) (tS C (.app i ee)) := by
  refine PS.imp (ps_expr (pe_bm PySem.F.plainAttrs_list PySem.F.slot_list_append PySem.F.type_list_append mt_append (pe_var hN hv hd hcd) (pa_cons he pa_nil (star_cons hn)) rfl (few1 hn) hl (star_cons hn) rfl)) fun D σ H ⟨G, P, r, st, k⟩ => ?_
  simp only [evS] at k
  split at k
  · rename_i ds0 h0
    split at k
    · rename_i x r1 h1
      split at k
      · rename_i ds h2
        split at k
        · rename_i hl
          obtain ⟨v0, e0, o0⟩ := st.sl i _ h0
          obtain ⟨p, ob, rfl, hp, f0, _⟩ := o0.at
          refine ⟨_, e0, ?_, tE_settle st h1 fun w G1 P1 H1 st1 s1 rp1 _ => ?_⟩
          · cases f0 with
            | lst rs => exact .inl ⟨rfl, _, SqL.of hp⟩
          · obtain ⟨v1, e1, o1⟩ := st1.sl i _ h2
            rw [e0] at e1
            cases e1
            obtain ⟨q, ob1, eq1, hq, f1, hA⟩ := o1.at
            cases eq1
            cases f1 with
            | lst rs =>
              obtain ⟨st2, s2⟩ := st1.updO h2 hA (.lst (Reps.app rs (Reps.one rp1)))
              exact ⟨_, _, w, rfl, rfl, hq, by rw [← Reps.length rs]; exact hl, k σ G1 _ P1 st2 (s1.trans s2) Fr.refl⟩
        · exact k.elim
      · exact k.elim
    · exact k.elim
  · exact k.elim
theorem gs_seti {i : Nat} {x : Str} {np spos : Pos} (hN : X.N[i]? = some x) (hv : Vis X.env.scope x) (hd : (x == ("__debug__" : Str)) = false) (hcd : (x == ("__classdict__" : Str)) = false) (hsl : isSlice c = false) (hcm : isComp e = false) (hcc : PE X c (tE C ec)) (he : PE X e (tE C ee)) :
    PS X (.Assign [.Subscript (.Name x np) c spos] e pos) (tS C (.seti i ec ee)) := by
  refine PS.imp (ps_asg he (pg_sub (pe_var hN hv hd hcd) hcc set_list ?_) ?_ ?_ rfl) fun D σ H ⟨G, P, r, st, k⟩ => ?_
  · intro v; cases c <;> first | rfl | (simp [isSlice] at hsl)
  · cases e <;> first | rfl | (simp [isComp] at hcm)
  · cases e <;> rfl
  · simp only [evS] at k
    split at k
    · rename_i t0 h0
      split at k
      · rename_i x1 r1 h1
        split at k
        · rename_i y r2 h2
          split at k
          · rename_i d h3
            split at k
            · rename_i d' h4
              obtain ⟨v0, e0, o0⟩ := st.sl i _ h0
              refine tE_settle st h1 fun w G1 P1 H1 st1 s1 rp1 _ => ⟨v0, e0, tE_settle st1 h2 fun u G2 P2 H2 st2 s2 rp2 _ => ?_⟩
              obtain ⟨v1, e1, o1⟩ := st2.sl i _ h3
              rw [e0] at e1
              cases e1
              obtain ⟨q, ob1, eq1, hq, f1, hA⟩ := o1.at
              cases eq1
              cases f1 with
              | lst rs =>
                generalize hy : y.toD = dy at *
                cases dy with
                | int j =>
                  simp only [setD] at h4
                  split at h4
                  · rename_i kk hk
                    cases h4
                    cases rp2.inti
                    obtain ⟨st3, s3⟩ := st2.updO h3 hA (.lst (Reps.set kk (Rep.mono s2.gg rp1) rs))
                    refine ⟨_, _, j, kk, rfl, rfl, hq, ?_, k σ G2 _ P2 st3 ((s1.trans s2).trans s3) Fr.refl⟩
                    rw [← Reps.length rs]; exact hk
                  · cases h4
                | _ => cases h4
              | _ => cases h4
            · exact k.elim
          · exact k.elim
        · exact k.elim
      · exact k.elim
    · exact k.elim
end
end FJ

/-! Defs: what they promise, calls. -/
namespace FJ
open PySem L2

/-- only what may be changed -/
def maskE : List Bool → Env → Env
  | true :: io, t :: ts => t :: maskE io ts
  | false :: io, _ :: ts => none :: maskE io ts
  | _, _ => []
def spFn (C : Ct) (f : Fn) : Sp := fun vs H Q E => ∃ G P ts t rp, Sst C G H P (ts.map some) (vs.map some) ∧ f.run ts = some (t, rp) ∧ ts.length = f.io.length ∧ ∀ v G' H' P' A, Sst C G' H' P' (maskE f.io rp) (vs.map some) → Stp G H P G' H' P' →
  Own C G' H' t v A → (∀ i a, A a → ¬ P' i a) → (∀ a, A a → (∃ j, P j a) ∨ H a = none) → Q v H'
theorem spFn_len {C : Ct} {f : Fn} {vs : List V} {H : Hp} {Q : VK} {E : XK} (h : spFn C f vs H Q E) : vs.length = f.io.length := by
  obtain ⟨G, P, ts, t, rp, st, _, hl, _⟩ := h
  have := st.len
  rw [List.length_map, List.length_map] at this
  omega

/-- the arguments that were handed on: As what each has -/
inductive ArgOk (C : Ct) (G H : Hp) (P P0 : Nat → Addr → Prop) (H0 : Hp) (σ : St) : List Bool → Ar → List T → List V → List (Addr → Prop) → Prop
  | nil : ArgOk C G H P P0 H0 σ [] .nil [] [] []
  | ci {io : List Bool} {e : E} {as : Ar} {d : D} {v : V} {ts : List T} {vs : List V} {As : List (Addr → Prop)} : Rep C G d v → ArgOk C G H P P0 H0 σ io as ts vs As → ArgOk C G H P P0 H0 σ (false :: io) (.ci e as) (.fr d :: ts) (v :: vs) ((fun _ => False) :: As)
  | cx {io : List Bool} {i : Nat} {as : Ar} {t : T} {v : V} {ts : List T} {vs : List V} {A : Addr → Prop} {As : List (Addr → Prop)} : σ[i]? = some (some v) → Own C G H t v A → (∀ j a, A a → ¬ P j a) → (∀ a, A a → (∃ j, P0 j a) ∨ H0 a = none) → (∀ B ∈ As, ∀ a, A a → ¬ B a) →
      ArgOk C G H P P0 H0 σ io as ts vs As → ArgOk C G H P P0 H0 σ (true :: io) (.cx i as) (t :: ts) (v :: vs) (A :: As)
def tAr (C : Ct) (io : List Bool) (as : Ar) : TA := fun σ H Q => ∃ G P r ts r1, Sst C G H P r σ ∧ eva as r = .ok ts r1 ∧ ∀ vs G1 H1 P1 As, Sst C G1 H1 P1 r1 σ → Stp G H P G1 H1 P1 → ArgOk C G1 H1 P1 P H σ io as ts vs As → (as.pu = true → Same H H1) → Q vs H1
section
variable {C : Ct} {G H G1 H1 G2 H2 H0 : Hp} {P P0 P1 P2 : Nat → Addr → Prop} {r r' : Env} {σ : St} {io : List Bool} {as : Ar} {ts : List T} {vs : List V} {As : List (Addr → Prop)}
theorem ArgOk.len (h : ArgOk C G H P P0 H0 σ io as ts vs As) : io.length = ts.length ∧ vs.length = ts.length ∧ As.length = ts.length := by
  induction h with
  | nil => exact ⟨rfl, rfl, rfl⟩
  | ci _ _ ih => simp [ih]
  | cx _ _ _ _ _ _ ih => simp [ih]
theorem ArgOk.base (h : ArgOk C G H P P0 H0 σ io as ts vs As) : ∀ A ∈ As, ∀ a, A a → ((∃ j, P0 j a) ∨ H0 a = none) ∧ G a = none ∧ H a ≠ none ∧ ∀ j, ¬ P j a := by
  induction h with
  | nil => intro A hA; simp at hA
  | ci _ _ ih =>
    intro A hA a ha
    rcases List.mem_cons.mp hA with rfl | hA
    · exact ha.elim
    · exact ih A hA a ha
  | cx _ o n b _ _ ih =>
    intro A hA a ha
    rcases List.mem_cons.mp hA with rfl | hA
    · exact ⟨b a ha, (Own.dom o ha).1, (Own.dom o ha).2, fun j => n j a ha⟩
    · exact ih A hA a ha
theorem ArgOk.weak {P0' : Nat → Addr → Prop} {H0' : Hp} (h : ArgOk C G H P P0 H0 σ io as ts vs As) (hb : ∀ a, ((∃ j, P0 j a) ∨ H0 a = none) → (∃ j, P0' j a) ∨ H0' a = none) : ArgOk C G H P P0' H0' σ io as ts vs As := by
  induction h with
  | nil => exact .nil
  | ci r _ ih => exact .ci r ih
  | cx e o n b d _ ih => exact .cx e o n (fun a ha => hb a (b a ha)) d ih
/-- what each argument has -/
def PAs (As : List (Addr → Prop)) : Nat → Addr → Prop := fun j a => ∃ A, As[j]? = some A ∧ A a
theorem ArgOk.sl (h : ArgOk C G H P P0 H0 σ io as ts vs As) : ∀ (j : Nat) (t : T), ts[j]? = some t → ∃ v A, vs[j]? = some v ∧ As[j]? = some A ∧ Own C G H t v A := by
  induction h with
  | nil => intro j t h; simp at h
  | ci r _ ih =>
    intro j t h
    cases j with
    | zero => simp at h; subst h; exact ⟨_, _, rfl, rfl, .fr r fun _ z => z⟩
    | succ j => exact ih j t (by simpa using h)
  | cx _ o _ _ _ _ ih =>
    intro j t h
    cases j with
    | zero => simp at h; subst h; exact ⟨_, _, rfl, rfl, o⟩
    | succ j => exact ih j t (by simpa using h)
theorem ArgOk.dj (h : ArgOk C G H P P0 H0 σ io as ts vs As) : ∀ (i j : Nat) (a : Addr), PAs As i a → PAs As j a → i = j := by
  induction h with
  | nil => intro i j a ⟨A, h, _⟩; simp at h
  | ci _ _ ih =>
    intro i j a ⟨A, h1, h2⟩ ⟨B, h3, h4⟩
    cases i with
    | zero => simp at h1; subst h1; exact h2.elim
    | succ i =>
      cases j with
      | zero => simp at h3; subst h3; exact h4.elim
      | succ j => exact congrArg _ (ih i j a ⟨A, by simpa using h1, h2⟩ ⟨B, by simpa using h3, h4⟩)
  | cx _ _ _ _ d _ ih =>
    intro i j a ⟨A, h1, h2⟩ ⟨B, h3, h4⟩
    cases i with
    | zero =>
      cases j with
      | zero => rfl
      | succ j =>
        simp at h1; subst h1
        exact (d B (List.mem_of_getElem? (by simpa using h3)) a h2 h4).elim
    | succ i =>
      cases j with
      | zero =>
        simp at h3; subst h3
        exact (d A (List.mem_of_getElem? (by simpa using h1)) a h4 h2).elim
      | succ j => exact congrArg _ (ih i j a ⟨A, by simpa using h1, h2⟩ ⟨B, by simpa using h3, h4⟩)
theorem ArgOk.sst (h : ArgOk C G H P P0 H0 σ io as ts vs As) (g : Same G H) : Sst C G H (PAs As) (ts.map some) (vs.map some) where
  len := by rw [List.length_map, List.length_map, h.len.2.1]
  gh := g
  sl := fun i t e => by
    rw [List.getElem?_map] at e
    cases ht : ts[i]? with
    | none => rw [ht] at e; cases e
    | some t' =>
      rw [ht] at e
      cases e
      obtain ⟨v, A, h1, h2, h3⟩ := h.sl i _ ht
      refine ⟨v, by rw [List.getElem?_map, h1]; rfl, ?_⟩
      have : PAs As i = A := by
        funext a
        refine propext ⟨fun ⟨B, hB, z⟩ => ?_, fun z => ⟨A, h2, z⟩⟩
        rw [h2] at hB; cases hB; exact z
      rw [this]; exact h3
  pe := fun i a ⟨A, hA, _⟩ => by
    have hl : i < ts.length := by rw [← h.len.2.2]; exact ltOf hA
    exact ⟨ts[i], by rw [List.getElem?_map, List.getElem?_eq_getElem hl]; rfl⟩
  dj := h.dj
/-- back in the caller -/
theorem put_back {Pc : Nat → Addr → Prop} {n : Nat} (h : ArgOk C G1 H1 P1 P0 H0 σ io as ts vs As) : ∀ (off : Nat) (rp r : Env) (Pr : Nat → Addr → Prop),
    (∀ (j : Nat) (t : T), (maskE io rp)[j]? = some (some t) → ∃ v, vs[j]? = some v ∧ Own C G2 H2 t v (Pc (off + j))) → (∀ i j a, Pc i a → Pc j a → i = j) → Sst C G2 H2 Pr r σ → (∀ j k a, Pc (off + j) a → ¬ Pr k a) →
    ∃ Pr', Sst C G2 H2 Pr' (putBack as io rp r) σ ∧ ∀ k a, Pr' k a → Pr k a ∨ ∃ j, Pc (off + j) a := by
  induction h with
  | nil =>
    intro off rp r Pr hc hd st hdj
    exact ⟨Pr, by unfold putBack; exact st, fun k a z => .inl z⟩
  | ci _ _ ih =>
    intro off rp r Pr hc hd st hdj
    cases rp with
    | nil => exact ⟨Pr, by unfold putBack; exact st, fun k a z => .inl z⟩
    | cons t rp =>
      obtain ⟨Pr', s1, s2⟩ := ih (off + 1) rp r Pr (fun j t h => by
        obtain ⟨v, h1, h2⟩ := hc (j + 1) t (by simpa [maskE] using h)
        exact ⟨v, by simpa using h1, by rw [show off + 1 + j = off + (j + 1) by omega]; exact h2⟩) hd st (fun j k a h => hdj (j + 1) k a (by rw [show off + (j + 1) = off + 1 + j by omega]; exact h))
      refine ⟨Pr', by unfold putBack; exact s1, fun k a z => (s2 k a z).elim .inl fun ⟨j, hj⟩ => .inr ⟨j + 1, by rw [show off + (j + 1) = off + 1 + j by omega]; exact hj⟩⟩
  | @cx io' i as' t0 v ts' vs' A As' e _ _ _ _ _ ih =>
    intro off rp r Pr hc hd st hdj
    cases rp with
    | nil => exact ⟨Pr, by unfold putBack; exact st, fun k a z => .inl z⟩
    | cons t rp =>
      have hi : i < σ.length := ltOf e
      have step : ∃ Pi, Sst C G2 H2 Pi (r.set i t) σ ∧ ∀ k a, Pi k a → Pr k a ∨ Pc (off + 0) a := by
        cases t with
        | none =>
          refine ⟨Pno Pr i, ⟨by rw [List.length_set]; exact st.len, st.gh, fun j t hj => ?_, fun j a hj => ?_, fun j k a h1 h2 => st.dj j k a h1.2 h2.2⟩, fun k a z => .inl z.2⟩
          · rcases getSet hj with ⟨_, z, _⟩ | ⟨hne, hj⟩
            · cases z
            · obtain ⟨u, h1, h2⟩ := st.sl j t hj
              refine ⟨u, h1, ?_⟩
              have : Pno Pr i j = Pr j := by
                funext a
                exact propext ⟨fun h => h.2, fun h => ⟨hne.symm, h⟩⟩
              rw [this]; exact h2
          · obtain ⟨t, ht⟩ := st.pe j a hj.2
            exact ⟨t, by rw [List.getElem?_set_ne (Ne.symm hj.1)]; exact ht⟩
        | some t =>
          obtain ⟨w, h1, h2⟩ := hc 0 t rfl
          simp at h1
          subst h1
          have st2 := st.put h2 (fun j a ha _ => hdj 0 j a ha) hi
          have : σ.set i (some v) = σ := by
            apply List.ext_getElem?
            intro j
            by_cases hj : i = j
            · subst hj
              rw [List.getElem?_set_self hi, e]
            · rw [List.getElem?_set_ne hj]
          rw [this] at st2
          exact ⟨_, st2, fun k a z => z.elim (fun z => .inr z.2) fun z => .inl z.2⟩
      obtain ⟨Pi, st2, hPi⟩ := step
      obtain ⟨Pr', s1, s2⟩ := ih (off + 1) rp (r.set i t) Pi (fun j t h => by
        obtain ⟨v, h1, h2⟩ := hc (j + 1) t (by simpa [maskE] using h)
        exact ⟨v, by simpa using h1, by rw [show off + 1 + j = off + (j + 1) by omega]; exact h2⟩) hd st2 (fun j k a h z => by
          rcases hPi k a z with z | z
          · exact hdj (j + 1) k a (by rw [show off + (j + 1) = off + 1 + j by omega]; exact h) z
          · have := hd _ _ a h z
            omega)
      refine ⟨Pr', by unfold putBack; exact s1, fun k a z => ?_⟩
      rcases s2 k a z with z | ⟨j, hj⟩
      · exact (hPi k a z).elim .inl fun z => .inr ⟨0, z⟩
      · exact .inr ⟨j + 1, by rw [show off + (j + 1) = off + 1 + j by omega]; exact hj⟩
end

section
variable {X : Cx} {C : Ct} {e : Expr} {es : List Expr} {ee : E} {as : Ar} {io : List Bool} {p pos : Pos}
theorem tAr_nil {σ : St} {H : Hp} {Q : List V → Hp → Prop} (q : tAr C [] .nil σ H Q) : Q [] H := by
  obtain ⟨G, P, r, ts, r1, st, e, k⟩ := q
  simp only [eva] at e
  cases e
  exact k [] G H P [] st (Stp.refl ..) .nil fun _ => Same.refl _
theorem gr_nil : PA X [] (tAr C [] .nil) := PA.imp pa_nil fun σ H Q q => tAr_nil q
theorem gr_ci (hn : notStar e = true) (he : PE X e (tE C ee)) (hs : PA X es (tAr C io as)) : PA X (e :: es) (tAr C (false :: io) (.ci ee as)) := by
  refine PA.imp (pa_cons he hs (star_cons hn)) fun σ H Q ⟨G, P, r, ts, r1, st, e, k⟩ => ?_
  simp only [eva] at e
  split at e
  · rename_i x r2 h1
    split at e
    · rename_i ts2 r3 h2
      cases e
      refine tE_settle st h1 fun v1 G1 P1 H1 st1 s1 rp p1 => ⟨G1, P1, _, ts2, _, st1, h2, fun vs G2 H2 P2 As st2 s2 ok p2 => ?_⟩
      exact k (v1 :: vs) G2 H2 P2 _ st2 (s1.trans s2) (.ci (Rep.mono s2.gg rp) (ok.weak fun a h => s1.base h)) fun h => (p1 (andT h).1).trans (p2 (andT h).2)
    · cases e
  · cases e
theorem gr_cx {i : Nat} (hn : notStar e = true) (he : PE X e (tVar i)) (hs : PA X es (tAr C io as)) : PA X (e :: es) (tAr C (true :: io) (.cx i as)) := by
  refine PA.imp (pa_cons he hs (star_cons hn)) fun σ H Q ⟨G, P, r, ts, r1, st, e, k⟩ => ?_
  simp only [eva] at e
  split at e
  · rename_i t ht
    split at e
    · rename_i ts2 r3 h2
      cases e
      obtain ⟨v, h1, o⟩ := st.sl i t ht
      have st1 : Sst C G H (Pno P i) (r.set i none) σ := by
        refine ⟨by rw [List.length_set]; exact st.len, st.gh, fun j t hj => ?_, fun j a hj => ?_, fun j k a h1 h2 => st.dj j k a h1.2 h2.2⟩
        · rcases getSet hj with ⟨_, z, _⟩ | ⟨hne, hj⟩
          · cases z
          · obtain ⟨u, h1, h2⟩ := st.sl j t hj
            refine ⟨u, h1, ?_⟩
            have : Pno P i j = P j := by
              funext a
              exact propext ⟨fun h => h.2, fun h => ⟨hne.symm, h⟩⟩
            rw [this]; exact h2
        · obtain ⟨t, ht⟩ := st.pe j a hj.2
          exact ⟨t, by rw [List.getElem?_set_ne (Ne.symm hj.1)]; exact ht⟩
      have n0 : ∀ j a, P i a → ¬ Pno P i j a := fun j a ha z => z.1 (st.dj _ _ _ z.2 ha)
      refine ⟨v, h1, G, Pno P i, _, ts2, _, st1, h2, fun vs G2 H2 P2 As st2 s2 ok p2 => ?_⟩
      obtain ⟨o2, n2⟩ := Own.stays s2 o n0
      have hb := ok.base
      refine k (v :: vs) G2 H2 P2 _ st2 (((Stp.refl G H P).sub fun _ _ z => z.2).trans s2) (.cx h1 o2 n2 (fun a ha => .inl ⟨i, ha⟩) (fun B hB a ha hb' => ?_) (ok.weak fun a h => ?_)) fun h => by cases h
      · rcases (hb B hB a hb').1 with ⟨j, hj⟩ | z
        · exact n0 j a ha hj
        · exact (Own.dom o ha).2 z
      · exact h.elim (fun ⟨j, hj⟩ => .inl ⟨j, hj.2⟩) .inr
    · cases e
  · cases e
/-- a def's call -/
theorem call_read {f : Fn} {io : List Bool} {σ : St} {H : Hp} {Q : VK} {E : XK} (hio : f.io = io) (q : tE C (.call f as) σ H Q) : tCall (spFn C f) [] E (tAr C io as) σ H Q := by
  obtain ⟨G, P, r, y, r', st, e, k⟩ := q
  simp only [ev] at e
  split at e
  · rename_i ts r1 h1
    split at e
    · rename_i t rp hf
      cases e
      refine ⟨G, P, r, ts, r1, st, h1, fun vs G1 H1 P1 As st1 s1 ok p1 => ?_⟩
      show spFn C f (vs ++ []) H1 Q E
      rw [List.append_nil]
      refine ⟨G1, PAs As, ts, t, rp, ok.sst st1.gh, hf, by rw [hio, ok.len.1], fun v G2 H2 P2 A st2 s2 o n b => ?_⟩
      have hb := ok.base
      have hPA : ∀ j a, PAs As j a → ((∃ j, P j a) ∨ H a = none) ∧ G1 a = none ∧ H1 a ≠ none ∧ ∀ j, ¬ P1 j a := fun j a ⟨A, h1, h2⟩ => hb A (List.mem_of_getElem? h1) a h2
      have hfar : ∀ k a, P1 k a → ¬ ((∃ j, PAs As j a) ∨ H1 a = none) := fun k a hk z => by
        rcases z with ⟨j, hj⟩ | z
        · exact (hPA j a hj).2.2.2 k hk
        · exact (st1.dom hk).2 z
      have stc : Sst C G2 H2 P1 r1 σ := by
        refine ⟨st1.len, st2.gh, fun i t e => ?_, st1.pe, st1.dj⟩
        obtain ⟨u, h1, h2⟩ := st1.sl i t e
        exact ⟨u, h1, (Own.stays s2 h2 fun j a ha z => (hPA j a z).2.2.2 i ha).1⟩
      rw [hio] at st2
      obtain ⟨P3, st3, hP3⟩ := put_back (Pc := P2) (n := 0) ok 0 rp r1 P1 (fun j t h => by
        obtain ⟨u, h1, h2⟩ := st2.sl j t h
        rw [List.getElem?_map] at h1
        cases hv : vs[j]? with
        | none => rw [hv] at h1; cases h1
        | some w =>
          rw [hv] at h1
          cases h1
          exact ⟨_, rfl, by rw [Nat.zero_add]; exact h2⟩) st2.dj stc (fun j k a h z => hfar k a z (s2.pp _ a h))
      refine k v G2 H2 P3 A (by rw [hio]; exact st3) ⟨s1.gg.trans s2.gg, fun a u h n0 => s2.kp a u (s1.kp a u h n0) fun j z => ?_, fun a h => s1.ld a (s2.ld a h), fun j a z => ?_, fun a h n0 => ?_⟩ ⟨o, fun j a ha z => ?_⟩ (fun a ha => ?_) fun hpu => ?_
      · exact (hPA j a z).1.elim (fun ⟨j, hj⟩ => n0 j hj) fun z => by rw [h] at z; cases z
      · rcases hP3 j a z with z | ⟨j, z⟩
        · exact s1.pp j a z
        · rcases s2.pp _ a z with ⟨j, z⟩ | z
          · exact (hPA j a z).1
          · exact .inr (s1.ld a z)
      · by_cases h1 : G1 a = none
        · rcases s2.gn a h1 n0 with ⟨j, z⟩ | z
          · exact (hPA j a z).1
          · exact .inr (s1.ld a z)
        · exact s1.gn a h h1
      · rcases hP3 j a z with z | ⟨j, z⟩
        · exact hfar j a z (b a ha)
        · exact n _ a ha z
      · rcases b a ha with ⟨j, z⟩ | z
        · exact (hPA j a z).1
        · exact .inr (s1.ld a z)
      · have hpu' : as.pu = true := hpu
        refine (p1 hpu').trans fun a u h => s2.kp a u h fun j z => ?_
        obtain ⟨A', h1, h2⟩ := z
        have : ∀ {io : List Bool} {as : Ar} {ts : List T} {vs : List V} {As : List (Addr → Prop)}, ArgOk C G1 H1 P1 P H σ io as ts vs As → as.pu = true → ∀ A ∈ As, ∀ a, ¬ A a := by
          intro io as ts vs As h
          induction h with
          | nil => intro _ A hA; simp at hA
          | ci _ _ ih =>
            intro hp A hA a ha
            rcases List.mem_cons.mp hA with rfl | hA
            · exact ha
            · exact ih (andT hp).2 A hA a ha
          | cx _ _ _ _ _ _ ih => intro hp; cases hp
        exact this ok hpu' A' (List.mem_of_getElem? h1) a h2
    · cases e
  · cases e
theorem ge_call {f : Fn} {k : Nat} {fa : Addr} {fd : FuncData} {ps : List Str} {x : Str} (F : FnOk X.prog X.w X.K X.mg X.base CX0 k fa fd ps (spFn C f)) (hr : Room k X.A) (hg : Gl X x) (hdb : (x == ("__debug__" : Str)) = false)
    (hm : X.mg x = some (.ref fa)) (hk : PySem.W.keepIn X.K (.ref fa) = true) (hb : Binds X.K fd ps []) (hn : noStars es = true) (h0 : es = [] → as = .nil ∧ f.io = []) (ha : PA X es (tAr C f.io as)) : PE X (.Call (.Name x p) es [] pos) (tE C (.call f as)) := by
  have px : Passes CX0 X (fun _ _ _ => False) := fun _ _ _ _ _ _ _ h => h.elim
  cases es with
  | nil =>
    refine PE.imp (pe_call0 F hr hg hm hk hb .nil px hdb) fun σ H Q q => ?_
    obtain ⟨e1, e2⟩ := h0 rfl
    have q' := call_read (E := fun _ _ _ => False) rfl q
    rw [e1, e2] at q'
    exact tAr_nil q'
  | cons e es =>
    simp only [noStars, List.all_cons, Bool.and_eq_true] at hn
    exact PE.imp (pe_call F hr hg hm hk hb .nil px ha hdb (star_cons hn.1) (star_no (by unfold noStars; exact hn.2))) fun σ H Q q => call_read rfl q
end
end FJ

/-! What the compiler hands on is kept by the text: expressions. -/
namespace FJ
open PySem L2

def GOk (P : Program) (w : World) (K : PySem.W.Frag) (mg : Str → Option Value) (base : Heap) (C : Ct) (k : Nat) (x : Str) : GI → Prop
  | .fn f => ∃ a fd ps, mg x = some (.ref a) ∧ FnOk P w K mg base CX0 k a fd ps (spFn C f) ∧ PySem.W.keepIn K (.ref a) = true ∧ Binds K fd ps []
  | .con d => ∃ u v, mg x = some u ∧ RelV v u ∧ ∀ G, Rep C G d v
  | .blt => mg x = none
  | .cls _ => True
structure Good (X : Cx) (C : Ct) (c : Cc) (k : Nat) : Prop where
  hK : X.K = C.K
  hN : X.N = c.N
  nd : c.N.Nodup
  sc : X.env.scope = c.sc
  calm : X.calm = true
  cell : ∀ x, c.cellOk x = true → X.fn x = true
  room : Room k X.A
  g : ∀ x gi, c.g x = some gi → GOk X.prog X.w X.K X.mg X.base C k x gi

theorem slotOf_ok {x : Str} : ∀ {N : List Str} {i : Nat}, slotOf x N = some i → N[i]? = some x
  | [], _, h => by cases h
  | y :: r, i, h => by
    unfold slotOf at h
    split at h
    · rename_i e; cases h; simp [e]
    · cases hs : slotOf x r with
      | none => rw [hs] at h; cases h
      | some j => rw [hs] at h; cases h; simpa using slotOf_ok hs
theorem visB_ok {sc : Scope} {x : Str} (h : visB sc x = true) : Vis sc x := by
  unfold visB at h
  split at h
  · exact .inl (by assumption)
  · exact .inr (.inl (by assumption))
  · exact .inr (.inr (by assumption))
  · cases h
section
variable {X : Cx} {C : Ct} {c : Cc} {k : Nat} {x : Str} {gi : GI}
theorem gOf_ok (G : Good X C c k) (h : gOf c x = some gi) : Gl X x ∧ (x == ("__debug__" : Str)) = false ∧ x ≠ "__name__" ∧ GOk X.prog X.w X.K X.mg X.base C k x gi := by
  unfold gOf at h
  split at h
  · rename_i hc
    simp only [Bool.and_eq_true, Bool.not_eq_true', decide_eq_true_eq] at hc
    obtain ⟨⟨h1, h2⟩, h3⟩ := hc
    refine ⟨?_, h2, h3, G.g x gi h⟩
    unfold gloB at h1
    show X.env.scope.names.lookup x = some .globalImplicit
    rw [G.sc]
    split at h1
    · assumption
    · cases h1
  · cases h
theorem loc_ok (G : Good X C c k) (h : locB c x = true) : Loc X.env.scope x ∧ (X.fn x = true ∨ X.env.scope.names.lookup x = some .local) := by
  unfold locB at h
  rw [G.sc]
  split at h
  · rename_i e; exact ⟨.inl e, .inr e⟩
  · rename_i e; exact ⟨.inr e, .inl (G.cell x h)⟩
  · cases h
/-- a comprehension's block -/
theorem Good.blk (G : Good X C c k) (s : Shared) (H : Hp) (scope : Scope) (Ca : Addr) (cl : List (Str × Addr)) (fp : List Addr) : Good (X.blk s H scope (compEnvC scope cl Ca X.env) fp) C (inner c scope) k where
  hK := G.hK
  hN := G.hN
  nd := G.nd
  sc := by
    show relS scope X.env.scope = relS scope c.sc
    rw [G.sc]
  calm := G.calm
  cell := fun x h => by
    have : scope.names.lookup x = some .cell := by simpa [inner] using h
    show (scope.names.lookup x == some .cell) = true
    rw [this]; rfl
  room := G.room
  g := G.g
end

/-! ### lists of expressions -/
def PEs (X : Cx) (C : Ct) : List Expr → Es → Prop
  | [], .nil => True
  | e :: es, .cons ee ees => notStar e = true ∧ PE X e (tE C ee) ∧ PEs X C es ees
  | _, _ => False
section
variable {X : Cx} {C : Ct}
theorem PEs.all : ∀ {l : List Expr} {es : Es}, PEs X C l es → PA X l (tEs C es) ∧ PA X l (tEu C es) ∧ noStars l = true
  | [], .nil, _ => ⟨ga_nil, gu_nil, rfl⟩
  | e :: l, .cons ee es, ⟨h1, h2, h3⟩ => by
    obtain ⟨a, b, c⟩ := PEs.all h3
    refine ⟨ga_cons h1 h2 a, gu_cons h1 h2 b, ?_⟩
    simp only [noStars, List.all_cons, h1, Bool.true_and]
    exact c
  | [], .cons _ _, h => h.elim
  | _ :: _, .nil, h => h.elim
end
theorem isTrue_if {P : Program} {w : World} {A : Around} {env : PySem.Env} {E : Value → Shared → Prop} {s : Shared} {t a b : Expr} {pos : Pos} {whole : Sem Value} {Q : Bool → Shared → Prop}
    (h : wpAny (model P w) A (isTrue t env (eval t env)) (fun c s' => if c = true then wpAny (model P w) A (isTrue a env (eval a env)) Q E s' else wpAny (model P w) A (isTrue b env (eval b env)) Q E s') E s) : wpAny (model P w) A (isTrue (.IfExp t a b pos) env whole) Q E s := by
  show wpAny (model P w) A (do if ← isTrue t env (eval t env) then isTrue a env (eval a env) else isTrue b env (eval b env)) Q E s
  refine wpAny_bind (wpAny_mono h (fun c s' q => ?_) fun _ _ x => x)
  cases c with
  | true => exact q
  | false => exact q
theorem gt_ite {X : Cx} {C : Ct} {a b c : Expr} {ea eb ec : E} {pos : Pos} (hc : PT X c (tT C ec)) (ha : PT X a (tT C ea)) (hb : PT X b (tT C eb)) : PT X (.IfExp c a b pos) (tT C (.ite ec ea eb)) := by
  refine ⟨fun pins s σ H Q I ⟨G, P, r, y, r', st, e, k⟩ => isTrue_if ?_⟩
  simp only [ev] at e
  split at e
  · rename_i r1 h1
    refine thn (hc.run pins s σ H (fun b H1 => b = true ∧ tT C ea σ H1 Q) I ⟨G, P, r, true, r1, st, h1, fun G1 H1 P1 st1 s1 p1 => ⟨rfl, G1, P1, r1, y, r', st1, e, fun G2 H2 P2 st2 s2 p2 => k G2 H2 P2 st2 (s1.trans s2) fun h => (p1 (andT h).1).trans (p2 (andT (andT h).2).1)⟩⟩) fun d s1 ⟨H1, I1, e1, q1⟩ => ?_
    rw [if_pos e1]
    exact ha.run pins s1 σ H1 Q I1 q1
  · rename_i r1 h1
    refine thn (hc.run pins s σ H (fun b H1 => b = false ∧ tT C eb σ H1 Q) I ⟨G, P, r, false, r1, st, h1, fun G1 H1 P1 st1 s1 p1 => ⟨rfl, G1, P1, r1, y, r', st1, e, fun G2 H2 P2 st2 s2 p2 => k G2 H2 P2 st2 (s1.trans s2) fun h => (p1 (andT h).1).trans (p2 (andT (andT h).2).2)⟩⟩) fun d s1 ⟨H1, I1, e1, q1⟩ => ?_
    rw [e1, if_neg (by decide)]
    exact hb.run pins s1 σ H1 Q I1 q1
  · cases e

/-! ### the induction -/
structure OkN (C : Ct) (k n : Nat) : Prop where
  e : ∀ {c : Cc} {ex : Expr} {r : E}, ce n c ex = some r → ∀ {X : Cx}, Good X C c k → PE X ex (tE C r) ∧ PT X ex (tT C r)
  and_ : ∀ {c : Cc} {a : Expr} {l : List Expr} {r : E}, cand n c a l = some r → ∀ {X : Cx}, Good X C c k → ∀ pos, PE X (.BoolOp .And (a :: l) pos) (tE C r) ∧ PW X (.BoolOp .And (a :: l) pos) (tT C r)
  or_ : ∀ {c : Cc} {a : Expr} {l : List Expr} {r : E}, cor n c a l = some r → ∀ {X : Cx}, Good X C c k → ∀ pos, PE X (.BoolOp .Or (a :: l) pos) (tE C r) ∧ PW X (.BoolOp .Or (a :: l) pos) (tT C r)
  es : ∀ {c : Cc} {l : List Expr} {r : Es}, ces n c l = some r → ∀ {X : Cx}, Good X C c k → PEs X C l r
  o : ∀ {c : Cc} {l : Option Expr} {r : Oe}, co n c l = some r → ∀ {X : Cx}, Good X C c k → PO X l (tO C r)
  ar : ∀ {c : Cc} {io : List Bool} {l : List Expr} {r : Ar}, car n c io l = some r → noStars l = true → (l = [] → r = .nil ∧ io = []) ∧ ∀ {X : Cx}, Good X C c k → PA X l (tAr C io r)
  it : ∀ {c : Cc} {ex : Expr} {r : FJ.It}, cit n c ex = some r → ∀ tg, (isPair r = true → isTup tg = true) → ∀ {X : Cx}, Good X C c k → PI X tg ex (tI C r)
  tg : ∀ {c : Cc} {ex : Expr} {r : Tg}, ctg n c ex = some r → ∀ {X : Cx}, Good X C c k → PG X ex (tG C r)
  tgs : ∀ {c : Cc} {l : List Expr} {r : List Tg}, ctgs n c l = some r → noStars l = true ∧ l.length = r.length ∧ ∀ {X : Cx}, Good X C c k → PGs X l (tGs C r)
section
variable {C : Ct} {k n : Nat} {c : Cc} {X : Cx}
theorem ne_b {x y : Str} (h : ¬ x = y) : (x == y) = false := by simpa using h
theorem name_ok {x : Str} {np : Pos} {r : E} (h : ce (n + 1) c (.Name x np) = some r) (G : Good X C c k) : PE X (.Name x np) (tE C r) := by
  simp only [ce] at h
  split at h
  · cases h
  · rename_i hd
    simp only [dbg, Bool.or_eq_true, decide_eq_true_eq, not_or] at hd
    obtain ⟨d1, d2⟩ := hd
    have d1' : (x == ("__debug__" : Str)) = false := by simpa using d1
    split at h
    · rename_i hv
      cases hs : slotOf x c.N with
      | none => rw [hs] at h; cases h
      | some i =>
        rw [hs] at h
        cases h
        exact ge_var (by rw [G.hN]; exact slotOf_ok hs) (by rw [G.sc]; exact visB_ok hv) d1' (ne_b d2)
    · split at h
      · rename_i d hg
        cases h
        obtain ⟨g1, g2, g3, u, v, g4, g5, g6⟩ := gOf_ok G hg
        exact ge_cst (pe_glob g1 g4 g5 g2) fun _ _ G _ _ _ => g6 G
      · cases h
theorem const_ok {cc : Const} {kk : Nat} {np : Pos} {r : E} (h : ce (n + 1) c (.Constant cc kk np) = some r) : PE X (.Constant cc kk np) (tE C r) := by
  cases cc <;> simp only [ce] at h <;> cases h
  · exact ge_cst pe_non fun _ _ _ _ _ _ => .non
  · exact ge_cst pe_bl fun _ _ _ _ _ _ => .bl
  · exact ge_cst pe_int fun _ _ _ _ _ _ => .int
  · exact ge_cst pe_str fun _ _ _ _ _ _ => .str
theorem bi_ok {x : Str} {b : BI} (h : biOf x = some b) : (b = .len ∨ b = .sum ∨ b = .all ∨ b = .any ∨ b = .max ∨ b = .min) ∧ bootBuiltins x = some (.builtin (idB b)) := by
  unfold biOf at h
  split at h
  · rename_i e; cases h; subst e; exact ⟨.inl rfl, PySem.boot_len⟩
  · split at h
    · rename_i e; cases h; subst e; exact ⟨.inr (.inr (.inl rfl)), PyProof.Rows.boot_all⟩
    · split at h
      · rename_i e; cases h; subst e; exact ⟨.inr (.inr (.inr (.inl rfl))), PyProof.Rows.boot_any⟩
      · split at h
        · rename_i e; cases h; subst e; exact ⟨.inr (.inl rfl), PyProof.Rows.boot_sum⟩
        · split at h
          · rename_i e; cases h; subst e; exact ⟨.inr (.inr (.inr (.inr (.inl rfl)))), PyProof.Rows.boot_max⟩
          · split at h
            · rename_i e; cases h; subst e; exact ⟨.inr (.inr (.inr (.inr (.inr rfl)))), PyProof.Rows.boot_min⟩
            · cases h
theorem bt_ok {x : Str} {b : BI} (h : btOf x = some b) : (b = .list ∨ b = .tuple ∨ b = .int) ∧ bootBuiltins x = some (.type (idT b)) := by
  unfold btOf at h
  split at h
  · rename_i e; cases h; subst e; exact ⟨.inl rfl, PyProof.Rows.boot_list⟩
  · split at h
    · rename_i e; cases h; subst e; exact ⟨.inr (.inl rfl), PyProof.Rows.boot_tuple⟩
    · split at h
      · rename_i e; cases h; subst e; exact ⟨.inr (.inr rfl), PyProof.Rows.boot_int⟩
      · cases h
theorem ty_ok {t : Expr} {ty : Ty} (G : Good X C c k) (h : tyOf c t = some ty) : ∃ np, t = .Name (bTy ty) np ∧ (∀ a b, ty ≠ .cls a b) ∧ Gl X (bTy ty) ∧ X.mg (bTy ty) = none := by
  unfold tyOf at h
  split at h
  · rename_i x np
    split at h
    · rename_i hg
      obtain ⟨g1, g2, g3, g4⟩ := gOf_ok G hg
      repeat' split at h
      all_goals first
        | (cases h; done)
        | (rename_i e; cases h; subst e; exact ⟨np, rfl, (fun _ _ z => by cases z), g1, g4⟩)
    · cases h
  · cases h
theorem both {ex : Expr} {r : E} (hp : PE X ex (tE C r)) (h : isTest ex = false) : PE X ex (tE C r) ∧ PT X ex (tT C r) := ⟨hp, gt_val hp h⟩
theorem call_ok (ih : OkN C k n) {x : Str} {np pos : Pos} {es : List Expr} {r : E} (h : ce (n + 1) c (.Call (.Name x np) es [] pos) = some r) (G : Good X C c k) : PE X (.Call (.Name x np) es [] pos) (tE C r) := by
  simp only [ce] at h
  split at h
  · cases h
  · rename_i hns
    have hns' : noStars es = true := by simpa using hns
    split at h
    · rename_i f hg
      obtain ⟨g1, g2, g3, a, fd, ps, g4, g5, g6, g7⟩ := gOf_ok G hg
      split at h
      · cases hc : car n c f.io es with
        | none => rw [hc] at h; cases h
        | some as =>
          rw [hc] at h
          cases h
          obtain ⟨q1, q2⟩ := ih.ar hc hns'
          exact ge_call g5 G.room g1 g2 g4 g6 g7 hns' q1 (q2 G)
      · cases h
    · rename_i hg
      obtain ⟨g1, g2, g3, g4⟩ := gOf_ok G hg
      split at h
      · rename_i hx
        have hx' : x = "isinstance" := of_decide_eq_true hx
        subst hx'
        split at h
        · rename_i a t
          split at h
          · rename_i ea ty h1 h2
            cases h
            obtain ⟨np2, rfl, t1, t2, t3⟩ := ty_ok G h2
            simp only [noStars, List.all_cons, Bool.and_eq_true] at hns'
            exact ge_isi G.hK t1 g1 g4 t2 t3 hns'.1 (ih.e h1 G).1
          · cases h
        · cases h
      · cases es with
        | nil =>
          have : False := by
            revert h
            cases biOf x <;> cases btOf x <;> intro h <;> cases h
          exact this.elim
        | cons e1 es1 =>
          simp only [noStars, List.all_cons, Bool.and_eq_true] at hns'
          cases hb : biOf x with
          | some b =>
            rw [hb] at h
            cases hc : ces n c (e1 :: es1) with
            | none => simp only [hc] at h; cases h
            | some as =>
              simp only [hc] at h
              cases h
              obtain ⟨b1, b2⟩ := bi_ok hb
              obtain ⟨_, u, _⟩ := (ih.es hc G).all
              exact ge_bi G.hK G.calm b1 b2 g3 g2 g1 g4 hns'.1 (by unfold noStars; exact hns'.2) u
          | none =>
            rw [hb] at h
            cases ht : btOf x with
            | none => simp only [ht] at h; cases h
            | some b =>
              cases hc : ces n c (e1 :: es1) with
              | none => simp only [ht, hc] at h; cases h
              | some as =>
                simp only [ht, hc] at h
                cases h
                obtain ⟨b1, b2⟩ := bt_ok ht
                obtain ⟨_, u, _⟩ := (ih.es hc G).all
                exact ge_bt G.calm b1 b2 g3 g2 g1 g4 hns'.1 (by unfold noStars; exact hns'.2) u
    · cases h
theorem set_no {e : Expr} {env : PySem.Env} (h : isSet e = false) : ∀ x, foldedSetIterable e env x = pure x := by
  intro x
  cases e <;> first | rfl | (simp [isSet] at h)
theorem comp_ok (ih : OkN C k n) {elt tg iter : Expr} {ifs : List Expr} {scope : Scope} {pos : Pos} {as : Int} {r : E} (h : ce (n + 1) c (.ListComp elt [⟨tg, iter, ifs, as⟩] scope pos) = some r) (G : Good X C c k) :
    as = 0 ∧ ∃ ee tgt it cd own, r = .comp ee tgt it cd ∧ own.map (·.2) = tgt.slots ∧ isSet iter = false ∧ PI X tg iter (tI C it) ∧ BlkOk X.N X.env.scope scope own ∧
    (∀ (s : Shared) (H : Hp) (Ca : Addr) (cl : List (Str × Addr)) (fp : List Addr), PG (X.blk s H scope (compEnvC scope cl Ca X.env) fp) tg (tG C tgt)) ∧
    (∀ (s : Shared) (H : Hp) (Ca : Addr) (cl : List (Str × Addr)) (fp : List Addr), PTs (X.blk s H scope (compEnvC scope cl Ca X.env) fp) ifs (tCd C cd)) ∧
    (∀ (s : Shared) (H : Hp) (Ca : Addr) (cl : List (Str × Addr)) (fp : List Addr), PE (X.blk s H scope (compEnvC scope cl Ca X.env) fp) elt (tE C ee)) := by
  simp only [ce] at h
  split at h
  · cases h
  · rename_i hset
    have hset2 : isSet iter = false ∧ as = 0 := by simpa using hset
    obtain ⟨hset, has⟩ := hset2
    refine ⟨has, ?_⟩
    split at h
    · rename_i it tgt h1 h2
      split at h
      · cases h
      · rename_i hpair
        split at h
        · rename_i hb
          rw [Bool.and_eq_true, decide_eq_true_eq] at hb
          obtain ⟨hb1, hb2⟩ := hb
          have hp : isPair it = true → isTup tg = true := fun z => by
            rw [z] at hpair
            simpa using hpair
          have blk : BlkOk X.N X.env.scope scope (namesOf tgt c.N) := by rw [G.hN, G.sc]; exact blkOk_by hb1
          have hi := ih.it h1 tg hp G
          have hg : ∀ (s : Shared) (H : Hp) (Ca : Addr) (cl : List (Str × Addr)) (fp : List Addr), PG (X.blk s H scope (compEnvC scope cl Ca X.env) fp) tg (tG C tgt) := fun s H Ca cl fp => ih.tg h2 (G.blk s H scope Ca cl fp)
          have hs : isSet iter = false := hset
          split at h
          · rename_i ee h3
            cases h
            exact ⟨_, _, _, _, _, rfl, hb2, hs, hi, blk, hg, fun _ _ _ _ _ => gc_no, fun s H Ca cl fp => (ih.e h3 (G.blk s H scope Ca cl fp)).1⟩
          · rename_i ee i h3
            cases hc : ce n (inner c scope) i with
            | none => rw [hc] at h; cases h
            | some ei =>
              rw [hc] at h
              cases h
              exact ⟨_, _, _, _, _, rfl, hb2, hs, hi, blk, hg, fun s H Ca cl fp => gc_so (ih.e hc (G.blk s H scope Ca cl fp)).2, fun s H Ca cl fp => (ih.e h3 (G.blk s H scope Ca cl fp)).1⟩
          · cases h
        · cases h
    · cases h
theorem e_ok (ih : OkN C k n) : ∀ {ex : Expr} {r : E}, ce (n + 1) c ex = some r → ∀ {X : Cx}, Good X C c k → PE X ex (tE C r) ∧ PT X ex (tT C r) := by
  intro ex r h X G
  cases ex with
  | Name x np => exact both (name_ok h G) rfl
  | Constant cc kk np => exact both (const_ok h) rfl
  | UnaryOp op a pos =>
    cases op with
    | USub =>
      simp only [ce] at h
      cases hc : ce n c a with
      | none => rw [hc] at h; cases h
      | some ea => rw [hc] at h; cases h; exact both (ge_neg (ih.e hc G).1) rfl
    | Not =>
      simp only [ce] at h
      cases hc : ce n c a with
      | none => rw [hc] at h; cases h
      | some ea => rw [hc] at h; cases h; exact ⟨ge_not (ih.e hc G).1, gt_not (ih.e hc G).2⟩
    | _ => simp [ce] at h
  | BinOp a o b pos =>
    simp only [ce] at h
    split at h
    · rename_i bo ea eb h1 h2 h3
      cases h
      have := binOp_of h1
      subst this
      exact both (ge_bin G.hK (ih.e h2 G).1 (ih.e h3 G).1) rfl
    · cases h
  | Compare a ops cs pos =>
    have hu := G.room.units
    cases ops with
    | nil => simp [ce] at h
    | cons o ops =>
      cases cs with
      | nil => simp [ce] at h
      | cons b cs =>
        cases ops with
        | nil =>
          cases cs with
          | cons _ _ => simp [ce] at h
          | nil =>
            simp only [ce] at h
            split at h
            · cases h
            · rename_i hm
              have hm' : behindInMarks o b = false := by simpa using hm
              split at h
              · rename_i ea eb h1 h2
                cases h
                exact ⟨ge_cmp hu (ih.e h1 G).1 (ih.e h2 G).1 hm', gt_cmp hu (ih.e h1 G).1 (ih.e h2 G).1 hm'⟩
              · cases h
        | cons u ops =>
          cases cs with
          | nil => cases ops <;> simp [ce] at h
          | cons d cs =>
            cases ops with
            | cons _ _ => simp [ce] at h
            | nil =>
              cases cs with
              | cons _ _ => simp [ce] at h
              | nil =>
                simp only [ce] at h
                split at h
                · cases h
                · rename_i hm
                  have hm' : isSet b = false ∧ isSet d = false := by simpa using hm
                  split at h
                  · rename_i ea eb ed h1 h2 h3
                    cases h
                    exact ⟨ge_chain hu (ih.e h1 G).1 (ih.e h2 G).1 (ih.e h3 G).1 hm'.1 hm'.2, gt_chain hu (ih.e h1 G).1 (ih.e h2 G).1 (ih.e h3 G).1 hm'.1 hm'.2⟩
                  · cases h
  | BoolOp op l pos =>
    cases l with
    | nil => cases op <;> simp [ce] at h
    | cons a l =>
      cases op with
      | And => exact ⟨(ih.and_ h G pos).1, (ih.and_ h G pos).2.pt⟩
      | Or => exact ⟨(ih.or_ h G pos).1, (ih.or_ h G pos).2.pt⟩
  | IfExp t a b pos =>
    simp only [ce] at h
    split at h
    · rename_i et ea eb h1 h2 h3
      cases h
      exact ⟨ge_ite (ih.e h1 G).2 (ih.e h2 G).1 (ih.e h3 G).1, gt_ite (ih.e h1 G).2 (ih.e h2 G).2 (ih.e h3 G).2⟩
    · cases h
  | Tuple es kk pos =>
    simp only [ce] at h
    cases hc : ces n c es with
    | none => rw [hc] at h; cases h
    | some l => rw [hc] at h; cases h; exact both (ge_tup (ih.es hc G).all.1) rfl
  | List es pos =>
    simp only [ce] at h
    cases hc : ces n c es with
    | none => rw [hc] at h; cases h
    | some l => rw [hc] at h; cases h; exact both (ge_lst (ih.es hc G).all.1) rfl
  | Dict ks vs pos =>
    cases ks <;> cases vs <;> simp only [ce] at h <;> cases h
    exact both (ge_dnew false) rfl
  | Subscript a b pos =>
    have gen : (if isSlice b = true then none else match ce n c a, ce n c b with | some a, some b => some (E.idx a b) | _, _ => none) = some r → PE X (.Subscript a b pos) (tE C r) := by
      intro h
      split at h
      · cases h
      · rename_i hs
        split at h
        · rename_i ea eb h1 h2
          cases h
          exact ge_idx G.hK G.room.units (ih.e h1 G).1 (ih.e h2 G).1 (by simpa using hs)
        · cases h
    refine both ?_ rfl
    cases b with
    | Slice lo hi st p2 =>
      cases st with
      | none =>
        simp only [ce] at h
        split at h
        · rename_i ea el eh h1 h2 h3
          cases h
          exact ge_sli G.hK (ih.e h1 G).1 (ih.o h2 G) (ih.o h3 G)
        · cases h
      | some _ => simp only [ce] at h; exact gen h
    | _ => simp only [ce] at h; exact gen h
  | Call f es kws pos =>
    refine both ?_ rfl
    cases kws with
    | cons _ _ => cases f <;> simp [ce] at h
    | nil =>
      cases f with
      | Name x np => exact call_ok ih h G
      | Attribute a m ap =>
        cases es with
        | cons _ _ => simp [ce] at h
        | nil =>
          simp only [ce] at h
          split at h
          · rename_i hb
            simp only [Bool.and_eq_true, decide_eq_true_eq] at hb
            obtain ⟨hm, hb1, hb2⟩ := hb
            subst hm
            cases hc : ce n c a with
            | none => rw [hc] at h; cases h
            | some ea => rw [hc] at h; cases h; exact ge_upper hb1 hb2 (ih.e hc G).1
          · cases h
      | _ => simp [ce] at h
  | ListComp elt gs scope pos =>
    refine both ?_ rfl
    cases gs with
    | nil => simp [ce] at h
    | cons g gs =>
      obtain ⟨tg, iter, ifs, as⟩ := g
      cases gs with
      | cons _ _ => simp [ce] at h
      | nil =>
        obtain ⟨rfl, ee, tgt, it, cd, own, rfl, ho, hs, hi, ok, hg, ht, he⟩ := comp_ok ih h G
        exact ge_comp G.calm (by rw [G.hN]; exact G.nd) hi ok ho hg ht he (set_no hs)
  | _ => simp [ce] at h
end
end FJ

/-! The compiler: the induction closed, statements, a def. -/
namespace FJ
open PySem L2
section
variable {C : Ct} {k n : Nat} {c : Cc} {X : Cx}
theorem and_ok (ih : OkN C k n) {a : Expr} {l : List Expr} {r : E} (h : cand (n + 1) c a l = some r) (G : Good X C c k) (pos : Pos) : PE X (.BoolOp .And (a :: l) pos) (tE C r) ∧ PW X (.BoolOp .And (a :: l) pos) (tT C r) := by
  cases l with
  | nil =>
    simp only [cand] at h
    exact ⟨pe_one (ih.e h G).1, gw_and1 (ih.e h G).2⟩
  | cons b l =>
    simp only [cand] at h
    split at h
    · rename_i ea eb h1 h2
      cases h
      exact ⟨ge_and (ih.e h1 G).1 (ih.and_ h2 G pos).1, gw_and (ih.e h1 G).2 (ih.and_ h2 G pos).2⟩
    · cases h
theorem or_ok (ih : OkN C k n) {a : Expr} {l : List Expr} {r : E} (h : cor (n + 1) c a l = some r) (G : Good X C c k) (pos : Pos) : PE X (.BoolOp .Or (a :: l) pos) (tE C r) ∧ PW X (.BoolOp .Or (a :: l) pos) (tT C r) := by
  cases l with
  | nil =>
    simp only [cor] at h
    exact ⟨pe_one (ih.e h G).1, gw_or1 (ih.e h G).2⟩
  | cons b l =>
    simp only [cor] at h
    split at h
    · rename_i ea eb h1 h2
      cases h
      exact ⟨ge_or (ih.e h1 G).1 (ih.or_ h2 G pos).1, gw_or (ih.e h1 G).2 (ih.or_ h2 G pos).2⟩
    · cases h
theorem es_ok (ih : OkN C k n) {l : List Expr} {r : Es} (h : ces (n + 1) c l = some r) (G : Good X C c k) : PEs X C l r := by
  cases l with
  | nil => simp only [ces] at h; cases h; trivial
  | cons e l =>
    simp only [ces] at h
    split at h
    · rename_i hn
      split at h
      · rename_i ee es h1 h2
        cases h
        exact ⟨hn, (ih.e h1 G).1, ih.es h2 G⟩
      · cases h
    · cases h
theorem o_ok (ih : OkN C k n) {l : Option Expr} {r : Oe} (h : co (n + 1) c l = some r) (G : Good X C c k) : PO X l (tO C r) := by
  cases l with
  | none => simp only [co] at h; cases h; exact go_no
  | some e =>
    simp only [co] at h
    cases hc : ce n c e with
    | none => rw [hc] at h; cases h
    | some ee => rw [hc] at h; cases h; exact go_so (ih.e hc G).1
theorem ar_ok (ih : OkN C k n) {io : List Bool} {l : List Expr} {r : Ar} (h : car (n + 1) c io l = some r) (hn : noStars l = true) : (l = [] → r = .nil ∧ io = []) ∧ ∀ {X : Cx}, Good X C c k → PA X l (tAr C io r) := by
  cases io with
  | nil =>
    cases l with
    | nil => simp only [car] at h; cases h; exact ⟨fun _ => ⟨rfl, rfl⟩, fun _ => gr_nil⟩
    | cons e l => simp only [car] at h; cases h
  | cons b io =>
    cases l with
    | nil => cases b <;> (simp only [car] at h; cases h)
    | cons e l =>
      refine ⟨fun z => absurd z (List.cons_ne_nil _ _), ?_⟩
      intro X G
      have hn1 : notStar e = true := by simp only [noStars, List.all_cons, Bool.and_eq_true] at hn; exact hn.1
      have hn2 : noStars l = true := by simp only [noStars, List.all_cons, Bool.and_eq_true] at hn; unfold noStars; exact hn.2
      cases b with
      | false =>
        simp only [car] at h
        split at h
        · rename_i ee as h1 h2
          cases h
          exact gr_ci hn1 (ih.e h1 G).1 ((ih.ar h2 hn2).2 G)
        · cases h
      | true =>
        cases e with
        | Name x np =>
          simp only [car] at h
          split at h
          · cases h
          · rename_i hd
            simp only [dbg, Bool.or_eq_true, decide_eq_true_eq, not_or, Bool.not_eq_true', Bool.not_eq_false] at hd
            obtain ⟨⟨d1, d2⟩, d3⟩ := hd
            have d1' : (x == ("__debug__" : Str)) = false := by simpa using d1
            split at h
            · rename_i i as h1 h2
              cases h
              exact gr_cx hn1 (pe_var (by rw [G.hN]; exact slotOf_ok h1) (by rw [G.sc]; exact visB_ok d3) d1' (ne_b d2)) ((ih.ar h2 hn2).2 G)
            · cases h
        | _ => simp only [car] at h; cases h
theorem it_gen (ih : OkN C k n) {ex : Expr} {r : FJ.It} (h : (ce n c ex).map FJ.It.lst = some r) (tg : Expr) (G : Good X C c k) : PI X tg ex (tI C r) := by
  cases hc : ce n c ex with
  | none => rw [hc] at h; cases h
  | some ee => rw [hc] at h; cases h; exact gi_lst G.hK (ih.e hc G).1
theorem tup_of {tg : Expr} (h : isTup tg = true) : ∃ es kk p, tg = .Tuple es kk p := by
  cases tg <;> first | exact ⟨_, _, _, rfl⟩ | (simp [isTup] at h)
theorem it_ok (ih : OkN C k n) {ex : Expr} {r : FJ.It} (h : cit (n + 1) c ex = some r) (tg : Expr) (hp : isPair r = true → isTup tg = true) (G : Good X C c k) : PI X tg ex (tI C r) := by
  cases ex with
  | Call f es kws pos =>
    cases f with
    | Name x np =>
      cases kws with
      | cons _ _ => simp only [cit] at h; exact it_gen ih h tg G
      | nil =>
        simp only [cit] at h
        split at h
        · rename_i hb
          simp only [Bool.and_eq_true] at hb
          obtain ⟨hb, hns⟩ := hb
          unfold bltB at hb
          split at hb
          · rename_i hg
            obtain ⟨g1, g2, g3, g4⟩ := gOf_ok G hg
            split at h
            · rename_i hx
              have hx := of_decide_eq_true hx
              subst hx
              split at h
              · rename_i a
                cases hc : ces n c [a] with
                | none => rw [hc] at h; cases h
                | some es =>
                  rw [hc] at h
                  cases h
                  have q := ih.es hc G
                  cases es with
                  | nil => exact q.elim
                  | cons ee es =>
                    cases es with
                    | cons _ _ => exact q.2.2.elim
                    | nil => exact gi_rng1 g1 g4 q.1 q.2.1
              · rename_i a b
                cases hc : ces n c [a, b] with
                | none => rw [hc] at h; cases h
                | some es =>
                  rw [hc] at h
                  cases h
                  have q := ih.es hc G
                  cases es with
                  | nil => exact q.elim
                  | cons ee es =>
                    cases es with
                    | nil => exact q.2.2.elim
                    | cons eb es =>
                      cases es with
                      | cons _ _ => exact q.2.2.2.2.elim
                      | nil => exact gi_rng2 g1 g4 q.1 q.2.2.1 q.2.1 q.2.2.2.1
              · cases h
            · split at h
              · rename_i hx
                have hx := of_decide_eq_true hx
                subst hx
                split at h
                · rename_i a
                  cases hc : ce n c a with
                  | none => rw [hc] at h; cases h
                  | some ee =>
                    rw [hc] at h
                    cases h
                    obtain ⟨l, kk, p, rfl⟩ := tup_of (hp rfl)
                    simp only [noStars, List.all_cons, Bool.and_eq_true] at hns
                    exact gi_enu G.hK g1 g4 hns.1 (ih.e hc G).1
                · cases h
              · split at h
                · rename_i hx
                  have hx := of_decide_eq_true hx
                  subst hx
                  split at h
                  · rename_i a b
                    split at h
                    · rename_i ea eb h1 h2
                      cases h
                      obtain ⟨l, kk, p, rfl⟩ := tup_of (hp rfl)
                      simp only [noStars, List.all_cons, Bool.and_eq_true] at hns
                      exact gi_zip G.hK g1 g4 hns.1 hns.2.1 (ih.e h1 G).1 (ih.e h2 G).1
                    · cases h
                  · cases h
                · exact it_gen ih h tg G
          · cases hb
        · exact it_gen ih h tg G
    | _ => simp only [cit] at h; exact it_gen ih h tg G
  | _ => simp only [cit] at h; exact it_gen ih h tg G
theorem tg_ok (ih : OkN C k n) {ex : Expr} {r : Tg} (h : ctg (n + 1) c ex = some r) (G : Good X C c k) : PG X ex (tG C r) := by
  cases ex with
  | Name x np =>
    simp only [ctg] at h
    split at h
    · rename_i hl
      cases hs : slotOf x c.N with
      | none => rw [hs] at h; cases h
      | some i =>
        rw [hs] at h
        cases h
        obtain ⟨l1, l2⟩ := loc_ok G hl
        exact gg_name (by rw [G.hN]; exact G.nd) (by rw [G.hN]; exact slotOf_ok hs) l1 l2
    · cases h
  | Tuple es kk pos =>
    simp only [ctg] at h
    cases hs : ctgs n c es with
    | none => rw [hs] at h; cases h
    | some l =>
      rw [hs] at h
      cases h
      obtain ⟨q1, q2, q3⟩ := ih.tgs hs
      exact gg_tup G.hK G.calm q1 q2 (q3 G)
  | _ => simp only [ctg] at h; cases h
theorem tgs_ok (ih : OkN C k n) {l : List Expr} {r : List Tg} (h : ctgs (n + 1) c l = some r) : noStars l = true ∧ l.length = r.length ∧ ∀ {X : Cx}, Good X C c k → PGs X l (tGs C r) := by
  cases l with
  | nil => simp only [ctgs] at h; cases h; exact ⟨rfl, rfl, fun _ => ggs_nil⟩
  | cons e l =>
    simp only [ctgs] at h
    split at h
    · rename_i hn
      split at h
      · rename_i ee es h1 h2
        cases h
        obtain ⟨q1, q2, q3⟩ := ih.tgs h2
        refine ⟨?_, by simp [q2], fun G => ggs_cons hn (ih.tg h1 G) (q3 G)⟩
        simp only [noStars, List.all_cons, hn, Bool.true_and]; exact q1
      · cases h
    · cases h
theorem okN (C : Ct) (k : Nat) : ∀ n, OkN C k n
  | 0 => ⟨fun h => by simp [ce] at h, fun h => by simp [cand] at h, fun h => by simp [cor] at h, fun h => by simp [ces] at h, fun h => by simp [co] at h, fun h => by simp [car] at h, fun h => by simp [cit] at h, fun h => by simp [ctg] at h, fun h => by simp [ctgs] at h⟩
  | n + 1 => by
    have ih := okN C k n
    constructor
    · intro c ex r h X G; exact e_ok ih h G
    · intro c a l r h X G pos; exact and_ok ih h G pos
    · intro c a l r h X G pos; exact or_ok ih h G pos
    · intro c l r h X G; exact es_ok ih h G
    · intro c l r h X G; exact o_ok ih h G
    · intro c io l r h hn; exact ar_ok ih h hn
    · intro c ex r h tg hp X G; exact it_ok ih h tg hp G
    · intro c ex r h X G; exact tg_ok ih h G
    · intro c l r h; exact tgs_ok ih h
end
end FJ

/-! The compiler: statements, a def. -/
namespace FJ
open PySem L2
structure GoodS (X : Cx) (C : Ct) (c : Cc) (k : Nat) : Prop extends Good X C c k where
  kd : c.sc.kind = .function
  po : PassesOwn (model X.prog X.w) X.A X.env X.xe
section
variable {C : Ct} {k n : Nat} {c : Cc} {X : Cx} {pos : Pos} {e tg : Expr} {s : S}
theorem vis_parts {x : Str} (h : (dbg x || decide (x = "__classdict__")) = false) : (x == ("__debug__" : Str)) = false ∧ (x == ("__classdict__" : Str)) = false := by
  simp only [dbg, Bool.or_eq_false_iff, decide_eq_false_iff_not] at h
  exact ⟨h.1, ne_b h.2⟩
theorem xp_ok (G : GoodS X C c k) (h : cxp c e = some s) : PS X (.Expr e pos) (tS C s) := by
  have ih := okN C k 1000
  unfold cxp at h
  split at h
  · rename_i s' h2
    cases h
    unfold capp at h2
    split at h2
    · rename_i x np m ap e1 cp
      split at h2
      · rename_i hb
        simp only [Bool.and_eq_true, decide_eq_true_eq, Bool.not_eq_true', dbg] at hb
        obtain ⟨hm, hv, hd, hcd, hn, hl⟩ := hb
        subst hm
        split at h2
        · rename_i i ee h3 h4
          cases h2
          exact gs_app (by rw [G.hN]; exact slotOf_ok h3) (by rw [G.sc]; exact visB_ok hv) hd (ne_b hcd) hl hn (ih.e h4 G.toGood).1
        · cases h2
      · cases h2
    · cases h2
  · split at h
    · cases h
    · rename_i hc
      cases h4 : ce 1000 c e with
      | none => rw [h4] at h; cases h
      | some ee =>
        rw [h4] at h
        cases h
        refine gs_expr ?_ (ih.e h4 G.toGood).1
        cases e <;> first | rfl | (simp [isComp] at hc)
theorem new_ok (G : GoodS X C c k) {x : Str} {r : E} (h : cnew c x e = some r) : PE X e (tE C r) := by
  unfold cnew at h
  split at h
  · cases h; exact ge_dnew _
  · exact ((okN C k 1000).e h G.toGood).1
/-- name = a comprehension -/
theorem lc_ok (G : GoodS X C c k) {elt : Expr} {gs : List Comprehension} {scope : Scope} {p py : Pos} {x : Str} {i : Nat} {r : E} (hl : locB c x = true) (hi : slotOf x c.N = some i) (h : ce 1000 c (.ListComp elt gs scope p) = some r) :
    PS X (.Assign [.Name x py] (.ListComp elt gs scope p) pos) (tS C (.asg (.name i) r)) := by
  obtain ⟨l1, l2⟩ := loc_ok G.toGood hl
  have hN : X.N.Nodup := by rw [G.hN]; exact G.nd
  have hi' : X.N[i]? = some x := by rw [G.hN]; exact slotOf_ok hi
  have sw : swapsWith (.ListComp elt gs scope p) (some (.Name x py)) pos.line X.env = pure (X.env.blockKind == .function && X.env.kindOf x == some .local && py.line == p.line && !(scope.names.any fun (n, k) => n == x && (k == .local || k == .cell))) := rfl
  cases hb : (X.env.blockKind == .function && X.env.kindOf x == some .local && py.line == p.line && !(scope.names.any fun (n, k) => n == x && (k == .local || k == .cell))) with
  | false => exact gs_set hN hi' l1 l2 ((okN C k 1000).e h G.toGood).1 (by rw [sw, hb])
  | true =>
    have hloc : X.env.scope.names.lookup x = some .local := by
      simp only [Bool.and_eq_true] at hb
      have := hb.1.1.2
      simpa [PySem.Env.kindOf] using this
    cases gs with
    | nil => simp [ce] at h
    | cons g gs =>
      obtain ⟨tg, iter, ifs, as⟩ := g
      cases gs with
      | cons _ _ => simp [ce] at h
      | nil =>
        obtain ⟨rfl, ee, tgt, it, cd, own, rfl, ho, hs, hit, ok, hg, ht, he⟩ := comp_ok (okN C k 999) h G.toGood
        refine PS.imp (ps_setLc G.calm hN hi' hloc (by rw [sw, hb]) hit ok hg ht he (set_no hs)) fun D σ H q => ?_
        have q' := set_read q
        rw [ho]
        exact lc_read q'
theorem set_ok (G : GoodS X C c k) {x : Str} {py : Pos} {i : Nat} {r : E} (hl : locB c x = true) (hi : slotOf x c.N = some i) (h : cnew c x e = some r) : PS X (.Assign [.Name x py] e pos) (tS C (.asg (.name i) r)) := by
  obtain ⟨l1, l2⟩ := loc_ok G.toGood hl
  have hN : X.N.Nodup := by rw [G.hN]; exact G.nd
  have hi' : X.N[i]? = some x := by rw [G.hN]; exact slotOf_ok hi
  have gen : swapsWith e (some (.Name x py)) pos.line X.env = pure false → PS X (.Assign [.Name x py] e pos) (tS C (.asg (.name i) r)) := fun hs => gs_set hN hi' l1 l2 (new_ok G h) hs
  cases e with
  | ListComp elt gs scope p => exact lc_ok G hl hi h
  | SetComp _ _ _ _ => simp [cnew, ce] at h
  | DictComp _ _ _ _ _ => simp [cnew, ce] at h
  | _ => exact gen rfl
theorem as_ok (G : GoodS X C c k) (h : cas c tg e = some s) : PS X (.Assign [tg] e pos) (tS C s) := by
  have ih := okN C k 1000
  cases tg with
  | Name x py =>
    simp only [cas] at h
    split at h
    · rename_i hl
      split at h
      · rename_i i ee h1 h2
        cases h
        exact set_ok G hl h1 h2
      · cases h
    · cases h
  | Tuple ts kk p =>
    simp only [cas] at h
    split at h
    · cases h
    · rename_i hb
      simp only [Bool.or_eq_true, not_or, Bool.not_eq_true] at hb
      split at h
      · rename_i tgt ee h1 h2
        cases h
        refine gs_asg (fun i z => ?_) (ih.e h2 G.toGood).1 (ih.tg h1 G.toGood) hb.1 hb.2
        subst z
        simp only [ctg] at h1
        cases hs : ctgs 999 c ts with
        | none => rw [hs] at h1; cases h1
        | some l => rw [hs] at h1; cases h1
      · cases h
  | Subscript a kx p =>
    cases a with
    | Name x np =>
      simp only [cas] at h
      split at h
      · rename_i hb
        simp only [Bool.and_eq_true, decide_eq_true_eq, Bool.not_eq_true', dbg] at hb
        obtain ⟨hv, hd, hcd, hsl, hcm⟩ := hb
        split at h
        · rename_i i ek ee h1 h2 h3
          cases h
          exact gs_seti (by rw [G.hN]; exact slotOf_ok h1) (by rw [G.sc]; exact visB_ok hv) hd (ne_b hcd) hsl hcm (ih.e h2 G.toGood).1 (ih.e h3 G.toGood).1
        · cases h
      · cases h
    | _ => simp [cas] at h
  | _ => simp [cas] at h
theorem aug_ok {o : Operator} (G : GoodS X C c k) (h : caug c tg o e = some s) : PS X (.AugAssign tg o e pos) (tS C s) := by
  have ih := okN C k 1000
  cases tg with
  | Name x py =>
    simp only [caug] at h
    split at h
    · rename_i hl
      obtain ⟨l1, l2⟩ := loc_ok G.toGood hl
      split at h
      · rename_i i ee h1 h2
        cases o with
        | Add => cases h; exact gs_aug (bo := .add) rfl (by rw [G.hN]; exact G.nd) (by rw [G.hN]; exact slotOf_ok h1) l1 l2 (ih.e h2 G.toGood).1 (.inl rfl)
        | Sub => cases h; exact gs_aug (bo := .sub) rfl (by rw [G.hN]; exact G.nd) (by rw [G.hN]; exact slotOf_ok h1) l1 l2 (ih.e h2 G.toGood).1 (.inr rfl)
        | _ => cases h
      · cases h
    · cases h
  | _ => simp [caug] at h
theorem ret_gen (G : GoodS X C c k) (h : (ce 1000 c e).map S.ret = some s) : PS X (.Return (some e) pos) (tS C s) := by
  cases h4 : ce 1000 c e with
  | none => rw [h4] at h; cases h
  | some ee => rw [h4] at h; cases h; exact gs_ret ((okN C k 1000).e h4 G.toGood).1
theorem ret_ok (G : GoodS X C c k) (h : cret c e = some s) : PS X (.Return (some e) pos) (tS C s) := by
  unfold cret at h
  split at h
  · rename_i x np
    split at h
    · cases h
    · rename_i hd
      obtain ⟨d1, d2⟩ := vis_parts (by simpa using hd)
      split at h
      · rename_i hv
        cases hs : slotOf x c.N with
        | none => rw [hs] at h; cases h
        | some i =>
          rw [hs] at h
          have hN : X.N[i]? = some x := by rw [G.hN]; exact slotOf_ok hs
          have hV : Vis X.env.scope x := by rw [G.sc]; exact visB_ok hv
          have h' : (if c.np ≤ i then S.retv i else S.ret (.var i)) = s := Option.some.inj h
          split at h'
          · subst h'; exact gs_retv (pe_var hN hV d1 d2)
          · subst h'; exact gs_ret (ge_var hN hV d1 d2)
      · exact ret_gen G h
  · exact ret_gen G h
structure OkS (C : Ct) (k n : Nat) : Prop where
  s : ∀ {c : Cc} {st : Stmt} {r : S}, cs n c st = some r → ∀ {X : Cx}, GoodS X C c k → PS X st (tS C r)
  ss : ∀ {c : Cc} {l : List Stmt} {r : S}, css n c l = some r → ∀ {X : Cx}, GoodS X C c k → PSs X l (tS C r)
theorem s_ok (ih : OkS C k n) {st : Stmt} {r : S} (h : cs (n + 1) c st = some r) (G : GoodS X C c k) : PS X st (tS C r) := by
  have ie := okN C k 1000
  cases st with
  | Expr e pos => exact xp_ok G (by simpa only [cs] using h)
  | Assign ts e pos =>
    cases ts with
    | nil => simp [cs] at h
    | cons tg ts =>
      cases ts with
      | cons _ _ => simp [cs] at h
      | nil => exact as_ok G (by simpa only [cs] using h)
  | AugAssign tg o e pos => exact aug_ok G (by simpa only [cs] using h)
  | If t a b pos =>
    simp only [cs] at h
    split at h
    · rename_i et sa sb h1 h2 h3
      cases h
      exact gs_if (ie.e h1 G.toGood).2 (ih.ss h2 G) (ih.ss h3 G)
    · cases h
  | For tg iter b els pos =>
    cases els with
    | cons _ _ => simp [cs] at h
    | nil =>
      simp only [cs] at h
      split at h
      · cases h
      · rename_i hset
        split at h
        · rename_i tgt it sb h1 h2 h3
          split at h
          · cases h
          · rename_i hpair
            cases h
            refine gs_for G.po G.calm (ie.it h2 tg (fun z => ?_) G.toGood) (ie.tg h1 G.toGood) (ih.ss h3 G) (set_no (by simpa using hset))
            rw [z] at hpair
            simpa using hpair
        · cases h
  | While t b els pos =>
    cases els with
    | cons _ _ => simp [cs] at h
    | nil =>
      simp only [cs] at h
      split at h
      · rename_i et sb h1 h2
        cases h
        exact gs_while G.po (ie.e h1 G.toGood).2 (ih.ss h2 G)
      · cases h
  | Return e pos =>
    cases e with
    | none => simp only [cs] at h; cases h; exact gs_retN
    | some e => exact ret_ok G (by simpa only [cs] using h)
  | Pass pos => simp only [cs] at h; cases h; exact gs_pass
  | Break pos => simp only [cs] at h; cases h; exact gs_brk
  | Continue pos => simp only [cs] at h; cases h; exact gs_cont
  | _ => simp [cs] at h
theorem ss_ok (ih : OkS C k n) {l : List Stmt} {r : S} (h : css (n + 1) c l = some r) (G : GoodS X C c k) : PSs X l (tS C r) := by
  cases l with
  | nil => simp only [css] at h; cases h; exact gss_nil
  | cons st l =>
    cases l with
    | nil => simp only [css] at h; exact gss_one (ih.s h G)
    | cons s2 l =>
      simp only [css] at h
      split at h
      · rename_i a b h1 h2
        cases h
        exact gss_cons (ih.s h1 G) (ih.ss h2 G)
      · cases h
theorem okS (C : Ct) (k : Nat) : ∀ n, OkS C k n
  | 0 => ⟨fun h => by simp [cs] at h, fun h => by simp [css] at h⟩
  | n + 1 => by
    have ih := okS C k n
    constructor
    · intro c st r h X G; exact s_ok ih h G
    · intro c l r h X G; exact ss_ok ih h G
end
end FJ

/-! A def keeps what the small language says of it. -/
namespace FJ
open PySem L2

def ioOk (io : List Bool) (as : List Nat) : Bool := as.all fun i => !(io[i]?.getD false)
section
variable {C : Ct} {G H G' H' : Hp} {P P' : Nat → Addr → Prop} {r r' : Env} {σ σ' : St}
theorem maskE_len : ∀ {io : List Bool} {l : Env}, l.length = io.length → (maskE io l).length = io.length
  | [], [], _ => rfl
  | [], _ :: _, h => by simp at h
  | _ :: _, [], h => by simp at h
  | true :: io, t :: l, h => by simp [maskE, maskE_len (io := io) (l := l) (by simpa using h)]
  | false :: io, t :: l, h => by simp [maskE, maskE_len (io := io) (l := l) (by simpa using h)]
theorem maskE_get : ∀ {io : List Bool} {l : Env} {j : Nat} {t : T}, (maskE io l)[j]? = some (some t) ↔ io[j]? = some true ∧ l[j]? = some (some t)
  | [], l, j, t => by simp [maskE]
  | _ :: _, [], j, t => by
    rename_i b io
    cases b <;> simp [maskE]
  | true :: io, x :: l, 0, t => by simp [maskE]
  | false :: io, x :: l, 0, t => by simp [maskE]
  | true :: io, x :: l, j + 1, t => by simp only [maskE, List.getElem?_cons_succ]; exact maskE_get
  | false :: io, x :: l, j + 1, t => by simp only [maskE, List.getElem?_cons_succ]; exact maskE_get
theorem Sst.start {ts : List T} {vs : List V} {N : List Str} {n : Nat} (st : Sst C G H P (ts.map some) (vs.map some)) (hn : n = ts.length) : Sst C G H P (ts.map some ++ List.replicate (N.length - n) none) (L2.start N vs) := by
  have hl := st.len
  rw [List.length_map, List.length_map] at hl
  have nn : ∀ (j : Nat) (t : T), (ts.map some ++ List.replicate (N.length - n) (none : Option T))[j]? = some (some t) → (ts.map some)[j]? = some (some t) := by
    intro j t h
    rw [List.getElem?_append] at h
    split at h
    · exact h
    · rw [List.getElem?_replicate] at h
      split at h <;> cases h
  refine ⟨?_, st.gh, fun i t e => ?_, fun i a h => ?_, st.dj⟩
  · unfold L2.start
    simp only [List.length_append, List.length_map, List.length_replicate]
    omega
  · obtain ⟨v, h1, h2⟩ := st.sl i t (nn i t e)
    refine ⟨v, ?_, h2⟩
    unfold L2.start
    rw [List.getElem?_append_left (ltOf h1)]
    exact h1
  · obtain ⟨t, e⟩ := st.pe i a h
    refine ⟨t, ?_⟩
    rw [List.getElem?_append_left (ltOf e)]
    exact e
/-- what the parameters are behind the body -/
theorem Sst.mask {io : List Bool} {as : List Nat} {vs : List V} {N : List Str} (st : Sst C G' H' P' r' σ') (f : Fr as (L2.start N vs) σ') (ho : ioOk io as = true) (hl : vs.length = io.length) (hN : io.length ≤ N.length) :
    Sst C G' H' (fun j a => io[j]? = some true ∧ P' j a) (maskE io (r'.take io.length)) (vs.map some) := by
  have lσ : σ'.length = N.length := by
    rw [f.1]; unfold L2.start; simp only [List.length_append, List.length_map, List.length_replicate]; omega
  have lr : (r'.take io.length).length = io.length := by rw [List.length_take, st.len, lσ]; omega
  refine ⟨?_, st.gh, fun i t e => ?_, fun i a h => ?_, fun i j a h1 h2 => st.dj i j a h1.2 h2.2⟩
  · rw [maskE_len lr, List.length_map, hl]
  · obtain ⟨e1, e2⟩ := maskE_get.mp e
    have hi : i < io.length := ltOf e1
    rw [List.getElem?_take_of_lt hi] at e2
    obtain ⟨v, h1, h2⟩ := st.sl i t e2
    have hni : i ∉ as := fun z => by
      have := List.all_eq_true.mp ho i z
      rw [e1] at this
      cases this
    rw [f.2 i hni] at h1
    refine ⟨v, ?_, ?_⟩
    · unfold L2.start at h1
      rw [List.getElem?_append_left (by rw [List.length_map, hl]; exact hi)] at h1
      exact h1
    · have : (fun a => io[i]? = some true ∧ P' i a) = P' i := by
        funext a
        exact propext ⟨fun h => h.2, fun h => ⟨e1, h⟩⟩
      rw [this]; exact h2
  · obtain ⟨t, e⟩ := st.pe i a h.2
    exact ⟨t, maskE_get.mpr ⟨h.1, by rw [List.getElem?_take_of_lt (ltOf h.1)]; exact e⟩⟩
end
section
variable {P : Program} {w : World} {K : PySem.W.Frag} {mg : Str → Option Value} {base : Heap} {C : Ct} {k : Nat} {x qual : Str} {params : Arguments} {body : List Stmt} {scope : Scope} {f : Addr} {fd : FuncData} {c : Cc} {ps : List Str} {b : S} {io : List Bool}
theorem GOk.mono {j : Nat} {gi : GI} (h : j ≤ k) (g : GOk P w K mg base C j x gi) : GOk P w K mg base C k x gi := by
  cases gi with
  | fn fn =>
    obtain ⟨a, fd, ps, g1, g2, g3, g4⟩ := g
    exact ⟨a, fd, ps, g1, g2.mono h, g3, g4⟩
  | con d => exact g
  | blt => exact g
  | cls _ => exact g
theorem fn_ok (F : FunD K x qual params body scope [] [] f fd) (S : FnScope c.N ps c.sc) (hsc : c.sc = scope) (hK : K = C.K) (hb : css 4194304 c body = some b) (hl : io.length = ps.length) (ho : ioOk io b.asgs = true)
    (hg : ∀ x gi, c.g x = some gi → GOk P w K mg base C k x gi) : FnOk P w K mg base CX0 (k + 1) f fd ps (spFn C (mkFn c.N.length io b)) := by
  subst hsc
  have hpl : ps.length ≤ c.N.length := by have := congrArg List.length S.pre; rw [List.length_take] at this; omega
  refine F.ok S (fun vs H Q E h => ?_) (fun cdv A outer s H vs Q E hr h => ⟨tS C b, PSs.nox ((okS C k 4194304).ss hb ?_), ?_⟩)
  · have := spFn_len h
    rw [this]; exact hl
  · exact { hK := hK, hN := rfl, nd := S.nd, sc := rfl, calm := rfl, cell := fun _ _ => rfl, room := hr, g := hg, kd := S.kind, po := PassesOwn.never }
  · obtain ⟨G, P0, ts, t, rp, st, hrun, hlen, kk⟩ := h
    have hvl : vs.length = io.length := by
      have := st.len
      rw [List.length_map, List.length_map] at this
      rw [← this, hlen]; rfl
    have hlen' : ts.length = io.length := hlen
    refine ⟨G, P0, _, st.start (N := c.N) (n := io.length) (by omega), ?_⟩
    simp only [mkFn] at hrun
    rw [if_pos hlen'] at hrun
    have hmask : ∀ (r' : Env) (σ' : St) (G' H' : Hp) (P' : Nat → Addr → Prop), Sst C G' H' P' r' σ' → Fr b.asgs (L2.start c.N vs) σ' → Sst C G' H' (fun j a => io[j]? = some true ∧ P' j a) (maskE io (r'.take io.length)) (vs.map some) := fun r' σ' G' H' P' st' f' => st'.mask f' ho hvl (by omega)
    cases he : evS b (ts.map some ++ List.replicate (c.N.length - io.length) none) with
    | nx r' =>
      rw [he] at hrun
      cases hrun
      exact fun σ' G' H' P' st' s' f' => kk .non G' H' _ (fun _ => False) (hmask r' σ' G' H' P' st' f') (s'.sub fun _ _ z => z.2) (.fr .non fun _ z => z) (fun _ _ z => z.elim) fun _ z => z.elim
    | rt t' r' =>
      rw [he] at hrun
      cases hrun
      exact fun v σ' G' H' P' A st' s' o n bb f' => kk v G' H' _ A (hmask r' σ' G' H' P' st' f') (s'.sub fun _ _ z => z.2) o (fun i a ha z => n i a ha z.2) bb
    | bk r' => rw [he] at hrun; cases hrun
    | ct r' => rw [he] at hrun; cases hrun
    | stuck => rw [he] at hrun; cases hrun
/-- the same as the name stands for it -/
theorem fn_gok (F : FunD K x qual params body scope [] [] f fd) (S : FnScope c.N ps c.sc) (hsc : c.sc = scope) (hK : K = C.K) (hb : css 4194304 c body = some b) (hl : io.length = ps.length) (ho : ioOk io b.asgs = true) (hm : mg x = some (.ref f))
    (hbd : ∀ (kV doc pm : Value) (an : Option Addr) (cdv ct : Value) (us : List Value), us.length = ps.length → bindArgs (PySem.W.fnOf x qual params body scope .none kV doc pm an cdv ct) ⟨us, []⟩ = pure (ps.zip us))
    (hg : ∀ x gi, c.g x = some gi → GOk P w K mg base C k x gi) : GOk P w K mg base C (k + 1) x (.fn (mkFn c.N.length io b)) :=
  ⟨f, fd, ps, hm, fn_ok F S hsc hK hb hl ho hg, F.kp, F.bindsN hbd⟩
theorem tab_ok {tab : List (Str × GI)} (h : ∀ p ∈ tab, GOk P w K mg base C k p.1 p.2) : ∀ x gi, tab.lookup x = some gi → GOk P w K mg base C k x gi := by
  intro x gi e
  induction tab with
  | nil => cases e
  | cons p tab ih =>
    obtain ⟨y, g⟩ := p
    rw [List.lookup_cons] at e
    split at e
    · rename_i hxy
      have : x = y := by simpa using hxy
      cases e
      rw [this]
      exact h _ (List.mem_cons_self ..)
    · exact ih (fun p hp => h p (List.mem_cons_of_mem _ hp)) e
theorem gok_int {i : Int} (h : ∃ t, mg x = some (.int i t)) : GOk P w K mg base C k x (.con (.int i)) := by
  obtain ⟨t, ht⟩ := h
  exact ⟨_, .int i, ht, ⟨t, rfl⟩, fun _ => .int⟩
theorem gok_str {z : Str} (h : ∃ t, mg x = some (.str z t)) : GOk P w K mg base C k x (.con (.str z)) := by
  obtain ⟨t, ht⟩ := h
  exact ⟨_, .str z, ht, ⟨t, rfl⟩, fun _ => .str⟩
/-- a law's promise -/
theorem law_sp {f : Fn} {a : Addr} {ns : List Int} {H : Hp} {Q : VK} {E : XK} (hK : K = C.K) (hl : f.io.length = 1) (hf : ∃ rp, f.run [.fr (.scr ns)] = some (.fr (.bl true), rp)) (h : SqL K H a (ns.map V.int)) (hQ : ∀ H', Q (.bl true) H') : spFn C f [.ref a] H Q E := by
  obtain ⟨rp, hf⟩ := hf
  refine ⟨H, fun _ _ => False, [.fr (.scr ns)], _, rp, ⟨rfl, Same.refl _, fun i t e => ?_, fun _ _ z => z.elim, fun _ _ _ z => z.elim⟩, hf, by rw [hl]; rfl, fun v G' H' P' A st s o n bb => ?_⟩
  · cases i with
    | zero =>
      cases e
      exact ⟨_, rfl, .fr (.scr (by rw [← hK]; exact h)) fun _ z => z⟩
    | succ i => cases e
  · cases o with
    | fr rp _ =>
      cases rp.bli
      exact hQ _
end
end FJ

/-! Plain rules for what the small language computes. -/
namespace FJ
open PySem L2

theorem forL_ind {bf : Env → O} {tg : Tg} {r : Env} {ds : List D} (I : Nat → Env → Prop) (h0 : I 0 r)
    (step : ∀ i d r, ds[i]? = some d → I i r → ∃ r1 r2, tg.bind d r = some r1 ∧ (bf r1 = .nx r2 ∨ bf r1 = .ct r2) ∧ I (i + 1) r2) : ∃ r', forL bf tg ds r = .nx r' ∧ I ds.length r' := by
  have main : ∀ (l : List D) (n : Nat) (r : Env), (∀ i d, l[i]? = some d → ds[n + i]? = some d) → I n r → ∃ r', forL bf tg l r = .nx r' ∧ I (n + l.length) r' := by
    intro l
    induction l with
    | nil => intro n r _ hI; exact ⟨r, by simp [forL], by simpa using hI⟩
    | cons d l ih =>
      intro n r hl hI
      obtain ⟨r1, r2, h1, h2, h3⟩ := step n d r (by simpa using hl 0 d rfl) hI
      obtain ⟨r', h4, h5⟩ := ih (n + 1) r2 (fun i e hi => by rw [show n + 1 + i = n + (i + 1) by omega]; exact hl (i + 1) e (by simpa using hi)) h3
      refine ⟨r', ?_, by rw [List.length_cons, show n + (l.length + 1) = n + 1 + l.length by omega]; exact h5⟩
      rcases h2 with h2 | h2 <;> simp [forL, h1, h2, h4]
  obtain ⟨r', h1, h2⟩ := main ds 0 r (fun i d h => by simpa using h) h0
  exact ⟨r', h1, by simpa using h2⟩
theorem compL_map {cf : Env → Option (Bool × Env)} {ef : Env → R} {i : Nat} {r : Env} {g : D → D} : ∀ {ds acc : List D}, r.set i none = r → (∀ d ∈ ds, cf (r.set i (some (.fr d))) = some (true, r.set i (some (.fr d)))) →
    (∀ d ∈ ds, ef (r.set i (some (.fr d))) = .ok (.v (.fr (g d))) (r.set i (some (.fr d)))) → acc.length + ds.length ≤ sizeLine → compL cf ef (.name i) ds r acc = .ok (acc ++ ds.map g) r
  | [], acc, _, _, _, _ => by simp [compL]
  | d :: ds, acc, hr, hc, he, hl => by
    have hw : wipeE (Tg.name i).slots (useE false (.v (.fr (g d))) (r.set i (some (.fr d)))) = r := by
      simp only [Tg.slots, wipeE, useE, List.set_set]; exact hr
    simp only [List.length_cons] at hl
    simp only [compL, Tg.bind, hc d (List.mem_cons_self ..), he d (List.mem_cons_self ..), hw]
    rw [if_pos (by omega), compL_map hr (fun d h => hc d (List.mem_cons_of_mem _ h)) (fun d h => he d (List.mem_cons_of_mem _ h)) (by simp; omega)]
    simp [Val.toD, T.toD]
@[simp] theorem eqD_int (i j : Int) : eqD (.int i) (.int j) = some (decide (i = j)) := by
  simp [eqD, D.plain, D.py, PyData.eqv, Bool.beq_eq_decide_eq]
@[simp] theorem eqD_bl (i j : Bool) : eqD (.bl i) (.bl j) = some (i == j) := by
  simp [eqD, D.plain, D.py, PyData.eqv]
@[simp] theorem eqD_str (i j : Str) : eqD (.str i) (.str j) = some (i == j) := by
  simp [eqD, D.plain, D.py, PyData.eqv]
@[simp] theorem inD_one (c : Nat) (z : Str) : inD (.str ⟨#[c]⟩) (.str z) = some (decide (c ∈ z.cps.toList)) := by
  simp [inD]
/-! ### steps: Tag keeps what comes behind from being looked at too early -/
structure Tag {α : Sort _} (a : α) : Type where
  mk ::
def useT (p : Bool) (q : R) (k : D → Env → R) (_ : Tag k) : R := R.use p q k
def lookT (p : Bool) (q : R) (k : D → Env → R) (_ : Tag k) : R := R.look p q k
def bT {α : Type} (q : R) (s : α) (k : Val → Env → α) (_ : Tag k) : α := match q with
  | .ok x r => k x r
  | .stuck => s
def lT {α : Type} (q : RL) (s : α) (k : List D → Env → α) (_ : Tag k) : α := match q with
  | .ok x r => k x r
  | .stuck => s
def aT {α : Type} (q : RA) (s : α) (k : List T → Env → α) (_ : Tag k) : α := match q with
  | .ok x r => k x r
  | .stuck => s
def oT {α β : Type} (q : Option α) (s : β) (k : α → β) (_ : Tag k) : β := match q with
  | some x => k x
  | none => s
section
variable {x : Val} {r : Env} {p : Bool} {k : D → Env → R} {tg : Tag k} {t : T} {d : D} {i : Nat} {a b c : E} {α β : Type}
@[simp] theorem useT_ok : useT p (.ok x r) k tg = k x.toD (useE p x r) := rfl
@[simp] theorem lookT_ok : lookT p (.ok x r) k tg = k x.toD (lookE p x r) := rfl
@[simp] theorem bT_ok {s : α} {k : Val → Env → α} {tg : Tag k} : bT (.ok x r) s k tg = k x r := rfl
@[simp] theorem lT_ok {s : α} {ds : List D} {k : List D → Env → α} {tg : Tag k} : lT (.ok ds r) s k tg = k ds r := rfl
@[simp] theorem aT_ok {s : α} {ds : List T} {k : List T → Env → α} {tg : Tag k} : aT (.ok ds r) s k tg = k ds r := rfl
@[simp] theorem oT_some {s : β} {y : α} {k : α → β} {tg : Tag k} : oT (some y) s k tg = k y := rfl
@[simp] theorem useE_v : useE p (.v t) r = r := rfl
@[simp] theorem useE_bt : useE true (.b i (.ow d)) r = r := by simp [useE, T.soft]
@[simp] theorem useE_bf : useE false (.b i t) r = frz i r := by simp [useE]
@[simp] theorem lookE_v : lookE p (.v t) r = r := rfl
@[simp] theorem lookE_bt : lookE true (.b i t) r = r := by simp [lookE]
@[simp] theorem lookE_bf : lookE false (.b i t) r = frz i r := by simp [lookE]
@[simp] theorem toD_v : (Val.v t).toD = t.toD := rfl
@[simp] theorem toD_b : (Val.b i t).toD = t.toD := rfl
@[simp] theorem toD_fr : (T.fr d).toD = d := by simp [T.toD]
@[simp] theorem toD_ow : (T.ow d).toD = d := by simp [T.toD]
@[simp] theorem ofT_some : ofT (some t) r = .ok (.v t) r := rfl
@[simp] theorem ofD_some : ofD (some d) r = .ok (.v (.fr d)) r := rfl
@[simp] theorem F_eq : F d r = .ok (.v (.fr d)) r := rfl
@[simp] theorem ofT_ite {q : Prop} [Decidable q] {u v : Option T} : ofT (if q then u else v) r = if q then ofT u r else ofT v r := by split <;> rfl
@[simp] theorem tru_bl {b : Bool} : R.tru (.ok (.v (.fr (.bl b))) r) = some (b, r) := by simp [R.tru, truD]
@[simp] theorem tru_int {b : Int} : R.tru (.ok (.v (.fr (.int b))) r) = some (b != 0, r) := by simp [R.tru, truD]
theorem tru_ok' {y : Bool} (h : truD x.toD = some y) : R.tru (.ok x r) = some (y, lookE true x r) := R.tru_of h
@[simp] theorem ite_and {q : Prop} [Decidable q] {y : Bool} : (if q then R.ok (.v (.fr (.bl y))) r else R.ok (.v (.fr (.bl false))) r) = .ok (.v (.fr (.bl (decide q && y)))) r := by
  by_cases h : q <;> simp [h]
@[simp] theorem ite_or {q : Prop} [Decidable q] {y : Bool} : (if q then R.ok (.v (.fr (.bl true))) r else R.ok (.v (.fr (.bl y))) r) = .ok (.v (.fr (.bl (decide q || y)))) r := by
  by_cases h : q <;> simp [h]
@[simp] theorem ev_var : ev (.var i) r = match r[i]? with
    | some (some (.fr d)) => F d r
    | some (some t) => .ok (.b i t) r
    | _ => .stuck := by simp only [ev] <;> rfl
@[simp] theorem ev_cst : ev (.cst d) r = .ok (.v (.fr d)) r := by simp only [ev] <;> rfl
@[simp] theorem ev_neg : ev (.neg a) r = useT true (ev a r) (fun d r => match d with
    | .int i => F (.int (-i)) r
    | _ => .stuck) ⟨⟩ := by simp only [ev] <;> rfl
@[simp] theorem ev_bin {o : Bop} : ev (.bin o a b) r = useT b.pu (ev a r) (fun x r => useT true (ev b r) (fun y r => ofT (binD o x y) r) ⟨⟩) ⟨⟩ := by simp only [ev] <;> rfl
@[simp] theorem ev_cmp {o : Cop} : ev (.cmp o a b) r = lookT b.pu (ev a r) (fun x r => lookT true (ev b r) (fun y r => ofD ((cmpD o x y).map .bl) r) ⟨⟩) ⟨⟩ := by simp only [ev] <;> rfl
@[simp] theorem ev_chain {o u : Cop} : ev (.chain o u a b c) r = lookT b.pu (ev a r) (fun x r => lookT c.pu (ev b r) (fun y r => oT (cmpD o x y) .stuck (fun k => if k = true then lookT true (ev c r) (fun z r => ofD ((cmpD u y z).map .bl) r) ⟨⟩ else F (.bl false) r) ⟨⟩) ⟨⟩) ⟨⟩ := by
  simp only [ev]
  show R.look _ _ _ = R.look _ _ _
  congr 1
  funext x r
  show R.look _ _ _ = R.look _ _ _
  congr 1
  funext y r
  cases cmpD o x y with
  | none => rfl
  | some k => cases k <;> rfl
@[simp] theorem ev_and : ev (.and a b) r = lookT true (ev a r) (fun x r => match x with
    | .bl k => if k = true then ev b r else .ok (.v (.fr (.bl false))) r
    | _ => .stuck) ⟨⟩ := by
  simp only [ev]
  show R.look _ _ _ = R.look _ _ _
  congr 1
  funext x r
  cases x with
  | bl k => cases k <;> rfl
  | _ => rfl
@[simp] theorem ev_or : ev (.or a b) r = lookT true (ev a r) (fun x r => match x with
    | .bl k => if k = true then .ok (.v (.fr (.bl true))) r else ev b r
    | _ => .stuck) ⟨⟩ := by
  simp only [ev]
  show R.look _ _ _ = R.look _ _ _
  congr 1
  funext x r
  cases x with
  | bl k => cases k <;> rfl
  | _ => rfl
@[simp] theorem ev_not : ev (.not a) r = oT (ev a r).tru .stuck (fun q => .ok (.v (.fr (.bl (!q.1)))) q.2) ⟨⟩ := by
  simp only [ev]
  cases (ev a r).tru <;> rfl
@[simp] theorem ev_ite : ev (.ite c a b) r = oT (ev c r).tru .stuck (fun q => if q.1 = true then ev a q.2 else ev b q.2) ⟨⟩ := by
  simp only [ev]
  cases (ev c r).tru with
  | none => rfl
  | some q =>
    obtain ⟨k, r⟩ := q
    cases k <;> rfl
@[simp] theorem ev_tup {es : Es} : ev (.tup es) r = lT (evs es r) .stuck (fun ds r => if ds.length ≤ sizeLine then .ok (.v (.fr (.tup ds))) r else .stuck) ⟨⟩ := by simp only [ev]; cases evs es r <;> rfl
@[simp] theorem ev_lst {es : Es} : ev (.lst es) r = lT (evs es r) .stuck (fun ds r => if ds.length ≤ sizeLine then .ok (.v (.ow (.lst ds))) r else .stuck) ⟨⟩ := by simp only [ev]; cases evs es r <;> rfl
@[simp] theorem ev_dnew {t : Bool} : ev (.dnew t) r = .ok (.v (.ow (if t then .dT [] [] else .dK [] []))) r := by simp only [ev]
@[simp] theorem ev_idx : ev (.idx a b) r = useT b.pu (ev a r) (fun x r => useT true (ev b r) (fun k r => ofD (idxD x k) r) ⟨⟩) ⟨⟩ := by simp only [ev] <;> rfl
@[simp] theorem ev_sli {lo hi : Oe} : ev (.sli a lo hi) r = useT (lo.pu && hi.pu) (ev a r) (fun x r => oT (evo lo r) .stuck (fun l => oT (evo hi l.2) .stuck (fun h => ofT (sliD x l.1 h.1) h.2) ⟨⟩) ⟨⟩) ⟨⟩ := by
  simp only [ev]
  show R.use _ _ _ = R.use _ _ _
  congr 1
  funext x r
  cases evo lo r with
  | none => rfl
  | some l =>
    simp only [oT_some]
    cases evo hi l.2 <;> rfl
@[simp] theorem ev_fld {f : Nat → Option Nat} : ev (.fld a f) r = useT true (ev a r) (fun x r => ofD (fldD f x) r) ⟨⟩ := by simp only [ev] <;> rfl
@[simp] theorem ev_isi {t : Ty} : ev (.isi a t) r = lookT true (ev a r) (fun d r => ofD ((isD t d).map .bl) r) ⟨⟩ := by simp only [ev] <;> rfl
@[simp] theorem ev_bi {f : BI} {es : Es} : ev (.bi f es) r = lT (evu es r) .stuck (fun ds r => ofT (biD f ds) r) ⟨⟩ := by simp only [ev]; cases evu es r <;> rfl
@[simp] theorem ev_mt {m : MT} {es : Es} : ev (.mt m a es) r = useT es.pu (ev a r) (fun x r => lT (evu es r) .stuck (fun ds r => ofT (mtD m x ds) r) ⟨⟩) ⟨⟩ := by
  simp only [ev]
  show R.use _ _ _ = R.use _ _ _
  congr 1
@[simp] theorem ev_call {f : Fn} {as : Ar} : ev (.call f as) r = aT (eva as r) .stuck (fun ts r => oT (f.run ts) .stuck (fun q => .ok (.v q.1) (putBack as f.io q.2 r)) ⟨⟩) ⟨⟩ := by
  simp only [ev]
  cases eva as r with
  | stuck => rfl
  | ok ts r =>
    simp only [aT_ok]
    cases f.run ts <;> rfl
@[simp] theorem evs_nil : evs .nil r = .ok [] r := by simp only [evs]
@[simp] theorem evs_cons {es : Es} : evs (.cons a es) r = bT (ev a r) .stuck (fun x r => lT (evs es (useE false x r)) .stuck (fun ds r => .ok (x.toD :: ds) r) ⟨⟩) ⟨⟩ := by
  simp only [evs]
  cases ev a r with
  | stuck => rfl
  | ok x r =>
    simp only [bT_ok]
    cases evs es (useE false x r) <;> rfl
@[simp] theorem evu_nil : evu .nil r = .ok [] r := by simp only [evu]
@[simp] theorem evu_cons {es : Es} : evu (.cons a es) r = bT (ev a r) .stuck (fun x r => lT (evu es (useE es.pu x r)) .stuck (fun ds r => .ok (x.toD :: ds) r) ⟨⟩) ⟨⟩ := by
  simp only [evu]
  cases ev a r with
  | stuck => rfl
  | ok x r =>
    simp only [bT_ok]
    cases evu es (useE es.pu x r) <;> rfl
@[simp] theorem evo_no : evo .no r = some (none, r) := by simp only [evo]
@[simp] theorem evo_so : evo (.so a) r = bT (ev a r) none (fun x r => match x.toD with
    | .int i => some (some i, lookE true x r)
    | _ => none) ⟨⟩ := by simp only [evo]; cases ev a r <;> rfl
@[simp] theorem evc_no : evc .no r = some (true, r) := by simp only [evc]
@[simp] theorem evc_so : evc (.so a) r = (ev a r).tru := by simp only [evc]
@[simp] theorem eva_nil : eva .nil r = .ok [] r := by simp only [eva]
@[simp] theorem eva_ci {as : Ar} : eva (.ci a as) r = bT (ev a r) .stuck (fun x r => aT (eva as (useE false x r)) .stuck (fun ts r => .ok (.fr x.toD :: ts) r) ⟨⟩) ⟨⟩ := by
  simp only [eva]
  cases ev a r with
  | stuck => rfl
  | ok x r =>
    simp only [bT_ok]
    cases eva as (useE false x r) <;> rfl
@[simp] theorem eva_cx {as : Ar} : eva (.cx i as) r = match r[i]? with
    | some (some t) => aT (eva as (r.set i none)) .stuck (fun ts r => .ok (t :: ts) r) ⟨⟩
    | _ => .stuck := by
  simp only [eva]
  cases r[i]? with
  | none => rfl
  | some o =>
    cases o with
    | none => rfl
    | some t =>
      simp only
      cases eva as (r.set i none) <;> rfl
@[simp] theorem back_ci {as : Ar} {q : Bool} {io : List Bool} {y : Option T} {ts : Env} : putBack (.ci a as) (q :: io) (y :: ts) r = putBack as io ts r := by simp only [putBack]
@[simp] theorem back_cx {as : Ar} {q : Bool} {io : List Bool} {y : Option T} {ts : Env} : putBack (.cx i as) (q :: io) (y :: ts) r = putBack as io ts (r.set i y) := by simp only [putBack]
@[simp] theorem back_nil {io : List Bool} {ts : Env} : putBack .nil io ts r = r := by simp only [putBack]
end

/-- how a statement ends -/
structure Ks where
  N : Env → Prop
  B : Env → Prop
  Cn : Env → Prop
  P : T → Env → Prop
def WPt (o : O) (K : Ks) (_ : Tag K) : Prop := match o with
  | .nx r => K.N r | .bk r => K.B r | .ct r => K.Cn r | .rt t r => K.P t r | .stuck => False
abbrev WP (o : O) (N B Cn : Env → Prop) (P : T → Env → Prop) : Prop := WPt o ⟨N, B, Cn, P⟩ ⟨⟩
section
variable {N B Cn : Env → Prop} {P : T → Env → Prop} {r : Env}
@[simp] theorem WP_nx {K : Ks} {tg : Tag K} : WPt (.nx r) K tg = K.N r := rfl
@[simp] theorem WP_bk {K : Ks} {tg : Tag K} : WPt (.bk r) K tg = K.B r := rfl
@[simp] theorem WP_ct {K : Ks} {tg : Tag K} : WPt (.ct r) K tg = K.Cn r := rfl
@[simp] theorem WP_rt {K : Ks} {tg : Tag K} {t : T} : WPt (.rt t r) K tg = K.P t r := rfl
theorem WP.mono {o : O} {N' B' C' : Env → Prop} {P' : T → Env → Prop} (h : WP o N B Cn P) (h1 : ∀ r, N r → N' r) (h2 : ∀ r, B r → B' r) (h3 : ∀ r, Cn r → C' r) (h4 : ∀ t r, P t r → P' t r) : WP o N' B' C' P' := by
  cases o with
  | nx r => exact h1 r h
  | bk r => exact h2 r h
  | ct r => exact h3 r h
  | rt t r => exact h4 t r h
  | stuck => exact h
@[simp] theorem WP_seq {a b : S} {K : Ks} {tg : Tag K} : WPt (evS (.seq a b) r) K tg = WPt (evS a r) ⟨fun r1 => WPt (evS b r1) K ⟨⟩, K.B, K.Cn, K.P⟩ ⟨⟩ := by
  simp only [evS]
  cases evS a r <;> rfl
@[simp] theorem WP_ife {c : E} {a b : S} {K : Ks} {tg : Tag K} : WPt (evS (.ife c a b) r) K tg = oT (ev c r).tru False (fun q => if q.1 = true then WPt (evS a q.2) K ⟨⟩ else WPt (evS b q.2) K ⟨⟩) ⟨⟩ := by
  simp only [evS]
  cases (ev c r).tru with
  | none => rfl
  | some q =>
    obtain ⟨k, r1⟩ := q
    cases k <;> rfl
@[simp] theorem evS_expr {e : E} : evS (.expr e) r = bT (ev e r) .stuck (fun _ r => .nx r) ⟨⟩ := by simp only [evS]; cases ev e r <;> rfl
@[simp] theorem evS_asg {tg : Tg} {e : E} : evS (.asg tg e) r = bT (ev e r) .stuck (fun x r => oT (asgE tg x r) .stuck (fun r => .nx r) ⟨⟩) ⟨⟩ := by
  simp only [evS]
  cases ev e r with
  | stuck => rfl
  | ok x r =>
    simp only [bT_ok]
    cases asgE tg x r <;> rfl
@[simp] theorem asg_name {i : Nat} {t : T} : asgE (.name i) (.v t) r = match r[i]? with
    | some _ => some (r.set i (some t))
    | none => none := by simp only [asgE] <;> rfl
@[simp] theorem asg_nameb {i j : Nat} {t : T} : asgE (.name i) (.b j t) r = some ((frz j r).set i (some (.fr t.toD))) := by simp [asgE, Tg.bind]
@[simp] theorem asg_tup {ts : List Tg} {x : Val} : asgE (.tup ts) x r = Tg.bind (.tup ts) x.toD (useE false x r) := by simp only [asgE]
@[simp] theorem evS_ret {e : E} : evS (.ret e) r = bT (ev e r) .stuck (fun x r => match x with
    | .v t => .rt t r
    | .b i t => .rt (.fr t.toD) (frz i r)) ⟨⟩ := by
  simp only [evS]
  cases ev e r with
  | stuck => rfl
  | ok x r => cases x <;> rfl
@[simp] theorem evS_retv {i : Nat} : evS (.retv i) r = match r[i]? with
    | some (some t) => .rt t (r.set i none)
    | _ => .stuck := by simp only [evS] <;> rfl
@[simp] theorem evS_retN : evS .retN r = .rt (.fr .non) r := by simp only [evS]
@[simp] theorem evS_pass : evS .pass r = .nx r := by simp only [evS]
@[simp] theorem evS_brk : evS .brk r = .bk r := by simp only [evS]
@[simp] theorem evS_cont : evS .cont r = .ct r := by simp only [evS]
theorem evS_aug {i : Nat} {o : Bop} {e : E} : evS (.aug i o e) r = match r[i]? with
    | some (some (.fr (.int a))) => (match ev e r with
      | .ok x r => (match o, x.toD with
        | .add, .int b => .nx ((useE false x r).set i (some (.fr (.int (a + b)))))
        | .sub, .int b => .nx ((useE false x r).set i (some (.fr (.int (a - b)))))
        | _, _ => .stuck)
      | .stuck => .stuck)
    | _ => .stuck := by simp only [evS] <;> rfl
theorem evS_app {i : Nat} {e : E} : evS (.app i e) r = match r[i]? with
    | some (some (.ow (.lst _))) => (match ev e r with
      | .ok x r => (match (useE false x r)[i]? with
        | some (some (.ow (.lst ds))) => if ds.length < sizeLine then .nx ((useE false x r).set i (some (.ow (.lst (ds ++ [x.toD]))))) else .stuck
        | _ => .stuck)
      | .stuck => .stuck)
    | _ => .stuck := by simp only [evS] <;> rfl
/-- a loop by its invariant -/
theorem WP_for {tg : Tg} {it : It} {b : S} {ds : List D} {hid : Option (Nat × T)} {r1 : Env} (I : Nat → Env → Prop) (h1 : evi it r = .ok ds hid r1) (h0 : I 0 (hideE hid r1)) (hf : freeE hid (tg.slots ++ b.asgs) = true)
    (step : ∀ i d r, ds[i]? = some d → I i r → ∃ r1, tg.bind d r = some r1 ∧ WP (evS b r1) (I (i + 1)) (fun r => N (showE hid r)) (I (i + 1)) P) (he : ∀ r, I ds.length r → N (showE hid r)) : WP (evS (.for tg it b) r) N B Cn P := by
  have main : ∀ (l : List D) (n : Nat) (r : Env), (∀ i d, l[i]? = some d → ds[n + i]? = some d) → n + l.length = ds.length → I n r →
      WP (forL (fun r => evS b r) tg l r) (fun r => N (showE hid r)) (fun _ => False) (fun _ => False) P := by
    intro l
    induction l with
    | nil =>
      intro n r _ hn hI
      simp only [forL]
      show N (showE hid r)
      have : n = ds.length := by simpa using hn
      rw [this] at hI
      exact he r hI
    | cons d l ih =>
      intro n r hl hn hI
      obtain ⟨r1, h1, h2⟩ := step n d r (by simpa using hl 0 d rfl) hI
      have go : ∀ r2, I (n + 1) r2 → WP (forL (fun r => evS b r) tg l r2) (fun r => N (showE hid r)) (fun _ => False) (fun _ => False) P := fun r2 hI2 =>
        ih (n + 1) r2 (fun i e hi => by rw [show n + 1 + i = n + (i + 1) by omega]; exact hl (i + 1) e (by simpa using hi)) (by rw [← hn, List.length_cons]; omega) hI2
      simp only [forL, h1]
      cases hb : evS b r1 with
      | nx r2 => rw [hb] at h2; exact go r2 h2
      | ct r2 => rw [hb] at h2; exact go r2 h2
      | bk r2 => rw [hb] at h2; exact h2
      | rt t r2 => rw [hb] at h2; exact h2
      | stuck => rw [hb] at h2; exact h2
  have := main ds 0 (hideE hid r1) (fun i d h => by simpa using h) (by simp) h0
  simp only [evS, h1]
  cases hfl : forL (fun r => evS b r) tg ds (hideE hid r1) with
  | nx r2 =>
    rw [hfl] at this
    simp only [hf]
    exact this
  | ct r2 => rw [hfl] at this; exact this.elim
  | bk r2 => rw [hfl] at this; exact this.elim
  | rt t r2 => rw [hfl] at this; exact this
  | stuck => rw [hfl] at this; exact this
/-- a while by its invariant and measure -/
theorem WP_whl {n : Nat} {c : E} {b : S} (I : Nat → Env → Prop) {m : Nat} (hm : m < n) (h0 : I m r)
    (step : ∀ m r, I m r → match (ev c r).tru with
      | some (k, r1) => if k = true then WP (evS b r1) (fun r => ∃ m', m' < m ∧ I m' r) N (fun r => ∃ m', m' < m ∧ I m' r) P else N r1
      | none => False) : WP (evS (.whl n c b) r) N B Cn P := by
  have main : ∀ (n m : Nat) (r : Env), m < n → I m r → WP (whlL (fun r => (ev c r).tru) (fun r => evS b r) n r) N (fun _ => False) (fun _ => False) P := by
    intro n
    induction n with
    | zero => intro m r h; omega
    | succ n ih =>
      intro m r hm hI
      have s := step m r hI
      simp only [whlL]
      cases ht : (ev c r).tru with
      | none => rw [ht] at s; exact s.elim
      | some q =>
        obtain ⟨k, r1⟩ := q
        rw [ht] at s
        cases k with
        | false => exact s
        | true =>
          simp only [if_true] at s
          have go : ∀ r2, (∃ m', m' < m ∧ I m' r2) → WP (whlL (fun r => (ev c r).tru) (fun r => evS b r) n r2) N (fun _ => False) (fun _ => False) P := fun r2 ⟨m', h1, h2⟩ => ih m' r2 (by omega) h2
          simp only
          cases hb : evS b r1 with
          | nx r2 => rw [hb] at s; exact go r2 s
          | ct r2 => rw [hb] at s; exact go r2 s
          | bk r2 => rw [hb] at s; exact s
          | rt t r2 => rw [hb] at s; exact s
          | stuck => rw [hb] at s; exact s
  have := main n m r hm h0
  simp only [evS]
  cases hfl : whlL (fun r => (ev c r).tru) (fun r => evS b r) n r with
  | nx r2 => rw [hfl] at this; exact this
  | ct r2 => rw [hfl] at this; exact this.elim
  | bk r2 => rw [hfl] at this; exact this.elim
  | rt t r2 => rw [hfl] at this; exact this
  | stuck => rw [hfl] at this; exact this
end
/-- a def's run, by its body -/
theorem run_by {n : Nat} {io : List Bool} {b : S} {ts : List T} {Q : T → Env → Prop} (hl : ts.length = io.length) (h : WP (evS b (ts.map some ++ List.replicate (n - io.length) none)) (fun r => Q (.fr .non) (r.take io.length)) (fun _ => False) (fun _ => False) fun t r => Q t (r.take io.length)) :
    ∃ t rp, (mkFn n io b).run ts = some (t, rp) ∧ Q t rp := by
  simp only [mkFn]
  rw [if_pos hl]
  cases he : evS b (ts.map some ++ List.replicate (n - io.length) none) with
  | nx r => rw [he] at h; exact ⟨_, _, rfl, h⟩
  | rt t r => rw [he] at h; exact ⟨_, _, rfl, h⟩
  | bk r => rw [he] at h; exact h.elim
  | ct r => rw [he] at h; exact h.elim
  | stuck => rw [he] at h; exact h.elim
theorem ev_comp {e : E} {tg : Tg} {it : It} {cd : Oe} {r r0 r1 : Env} {ds out : List D} {hid : Option (Nat × T)} (h1 : evi it r = .ok ds hid r0) (hs : stillE (hideE hid r0) tg.slots = true)
    (h2 : compL (fun r => evc cd r) (fun r => ev e r) tg ds (wipeE tg.slots (hideE hid r0)) [] = .ok out r1) : ev (.comp e tg it cd) r = .ok (.v (.ow (.lst out))) (showE hid (backE (hideE hid r0) tg.slots r1)) := by
  simp only [ev, h1, hs, if_true, h2]
end FJ

namespace FL
open PySem L2 FJ
def top (i : Nat) : Stmt := PySem.Challenge.pw_farjump_k01_words.main.body.getD i (.Pass ⟨0, 0, 0, 0⟩)
/-! ### is_word -/
abbrev s_is_word : Stmt := top 3
def b_is_word : S :=
  (.seq (.ife (.or (.not (.isi (.var 0) .str)) (.not (.chain .le .le (.cst (.int 1)) (.bi .len (.cons (.var 0) .nil)) (.cst (.int 8)))))
  (.ret (.cst (.bl false)))
  .pass)
  (.ret (.bi .all (.cons (.comp (.cmp .inn (.var 1) (.cst (.str "abcdefghijklmnopqrstuvwxyz"))) (.name 1) (.lst (.var 0)) .no) .nil))))
def F_is_word : Fn := mkFn 2 [false] b_is_word
@[simp] theorem io_is_word : F_is_word.io = [false] := rfl
def t_is_word : List (Str × GI) := [("all", .blt), ("SMALL", .con (.str "abcdefghijklmnopqrstuvwxyz")), ("len", .blt), ("MOST_LETTERS", .con (.int 8)), ("isinstance", .blt), ("str", .blt)]
def c_is_word : Cc := ⟨["thing", "sign"], defScope s_is_word, fun _ => true, (fun x => t_is_word.lookup x), 1, fun _ => [], []⟩
theorem k_is_word : css 4194304 c_is_word (defBody s_is_word) = some b_is_word := by kernel_rfl
theorem sc_is_word : FnScope c_is_word.N ["thing"] c_is_word.sc := ⟨rfl, rfl, rfl, by decide +kernel, rfl, by decide +kernel, by decide +kernel⟩
def d_is_word : He.DefD := ⟨("is_word", none), "is_word", "is_word", defArgs s_is_word, defBody s_is_word, defScope s_is_word, [], []⟩
/-! ### _law_mixed -/
abbrev s__law_mixed : Stmt := top 5
def b__law_mixed : S :=
  (.seq (.asg (.name 2) (.bin .mod (.bin .mul (.bin .add (.bin .add (.bin .mod (.var 0) (.cst (.int 2147483647))) (.bin .mul (.cst (.int 7919)) (.var 1))) (.cst (.int 1))) (.cst (.int 48271))) (.cst (.int 2147483647))))
  (.seq (.asg (.name 2) (.bin .mod (.bin .mul (.var 2) (.bin .add (.bin .fdiv (.var 2) (.cst (.int 1009))) (.cst (.int 69621)))) (.cst (.int 2147483647))))
  (.ret (.bin .mod (.bin .mul (.bin .add (.var 2) (.bin .mul (.cst (.int 31)) (.var 1))) (.bin .add (.bin .fdiv (.var 2) (.cst (.int 16807))) (.cst (.int 40692)))) (.cst (.int 2147483629))))))
def F__law_mixed : Fn := mkFn 3 [false, false] b__law_mixed
@[simp] theorem io__law_mixed : F__law_mixed.io = [false, false] := rfl
def t__law_mixed : List (Str × GI) := []
def c__law_mixed : Cc := ⟨["_law_cell", "_law_k", "_law_number"], defScope s__law_mixed, fun _ => true, (fun x => t__law_mixed.lookup x), 2, fun _ => [], []⟩
theorem k__law_mixed : css 4194304 c__law_mixed (defBody s__law_mixed) = some b__law_mixed := by kernel_rfl
theorem sc__law_mixed : FnScope c__law_mixed.N ["_law_cell", "_law_k"] c__law_mixed.sc := ⟨rfl, rfl, rfl, by decide +kernel, rfl, by decide +kernel, by decide +kernel⟩
def d__law_mixed : He.DefD := ⟨("_law_mixed", none), "_law_mixed", "_law_mixed", defArgs s__law_mixed, defBody s__law_mixed, defScope s__law_mixed, [], []⟩
/-! ### _law_text -/
abbrev s__law_text : Stmt := top 6
def b__law_text : S :=
  (.seq (.asg (.name 1) (.bin .fdiv (.var 0) (.cst (.int 22))))
  (.seq (.asg (.name 2) (.cst (.str "")))
  (.seq (.for (.name 3) (.rng (.cons (.bin .mod (.bin .fdiv (.var 0) (.cst (.int 2))) (.cst (.int 11))) .nil))
  (.ife (.cmp .eq (.bin .mod (.var 0) (.cst (.int 2))) (.cst (.int 0)))
  (.seq (.asg (.name 2) (.bin .add (.var 2) (.idx (.cst (.str "abcdefghijklmnopqrstuvwxyz")) (.bin .mod (.var 1) (.cst (.int 26))))))
  (.asg (.name 1) (.bin .fdiv (.var 1) (.cst (.int 26)))))
  (.asg (.name 2) (.bin .add (.var 2) (.idx (.cst (.str "abcdefghijklmnopqrstuvwxyz")) (.bin .mod (.call F__law_mixed (.ci (.var 1) (.ci (.var 3) .nil))) (.cst (.int 26))))))))
  (.retv 2))))
def F__law_text : Fn := mkFn 4 [false] b__law_text
@[simp] theorem io__law_text : F__law_text.io = [false] := rfl
def t__law_text : List (Str × GI) := [("range", .blt), ("_law_mixed", .fn F__law_mixed)]
def c__law_text : Cc := ⟨["_law_cell", "_law_rest", "_law_text_here", "_law_k"], defScope s__law_text, fun _ => true, (fun x => t__law_text.lookup x), 1, fun _ => [], []⟩
theorem k__law_text : css 4194304 c__law_text (defBody s__law_text) = some b__law_text := by kernel_rfl
theorem sc__law_text : FnScope c__law_text.N ["_law_cell"] c__law_text.sc := ⟨rfl, rfl, rfl, by decide +kernel, rfl, by decide +kernel, by decide +kernel⟩
def d__law_text : He.DefD := ⟨("_law_text", none), "_law_text", "_law_text", defArgs s__law_text, defBody s__law_text, defScope s__law_text, [], []⟩
/-! ### _law_due -/
abbrev s__law_due : Stmt := top 7
def b__law_due : S :=
  (.seq (.for (.name 1) (.lst (.var 0))
  (.ife (.cmp .nin (.var 1) (.cst (.str "abcdefghijklmnopqrstuvwxyz")))
  (.ret (.cst (.bl false)))
  .pass))
  (.ret (.chain .le .le (.cst (.int 1)) (.bi .len (.cons (.var 0) .nil)) (.cst (.int 8)))))
def F__law_due : Fn := mkFn 2 [false] b__law_due
@[simp] theorem io__law_due : F__law_due.io = [false] := rfl
def t__law_due : List (Str × GI) := [("len", .blt)]
def c__law_due : Cc := ⟨["_law_text_here", "_law_sign"], defScope s__law_due, fun _ => true, (fun x => t__law_due.lookup x), 1, fun _ => [], []⟩
theorem k__law_due : css 4194304 c__law_due (defBody s__law_due) = some b__law_due := by kernel_rfl
theorem sc__law_due : FnScope c__law_due.N ["_law_text_here"] c__law_due.sc := ⟨rfl, rfl, rfl, by decide +kernel, rfl, by decide +kernel, by decide +kernel⟩
def d__law_due : He.DefD := ⟨("_law_due", none), "_law_due", "_law_due", defArgs s__law_due, defBody s__law_due, defScope s__law_due, [], []⟩
/-! ### _law_right -/
abbrev s__law_right : Stmt := top 8
def b__law_right : S :=
  (.seq (.asg (.name 2) (.call F_is_word (.ci (.var 0) .nil)))
  (.ret (.and (.isi (.var 2) .bool) (.cmp .eq (.var 2) (.var 1)))))
def F__law_right : Fn := mkFn 3 [false, false] b__law_right
@[simp] theorem io__law_right : F__law_right.io = [false, false] := rfl
def t__law_right : List (Str × GI) := [("isinstance", .blt), ("bool", .blt), ("is_word", .fn F_is_word)]
def c__law_right : Cc := ⟨["_law_thing", "_law_due_here", "_law_found"], defScope s__law_right, fun _ => true, (fun x => t__law_right.lookup x), 2, fun _ => [], []⟩
theorem k__law_right : css 4194304 c__law_right (defBody s__law_right) = some b__law_right := by kernel_rfl
theorem sc__law_right : FnScope c__law_right.N ["_law_thing", "_law_due_here"] c__law_right.sc := ⟨rfl, rfl, rfl, by decide +kernel, rfl, by decide +kernel, by decide +kernel⟩
def d__law_right : He.DefD := ⟨("_law_right", none), "_law_right", "_law_right", defArgs s__law_right, defBody s__law_right, defScope s__law_right, [], []⟩
/-! ### law -/
abbrev s_law : Stmt := top 9
def b_law : S :=
  (.seq (.for (.name 1) (.lst (.sli (.var 0) .no (.so (.cst (.int 30)))))
  (.seq (.asg (.name 2) (.call F__law_text (.ci (.var 1) .nil)))
  (.seq (.asg (.name 3) (.bin .mod (.bin .fdiv (.var 1) (.cst (.int 5))) (.bin .add (.cst (.int 1)) (.bi .len (.cons (.var 2) .nil)))))
  (.seq (.asg (.name 4) (.bin .add (.bin .add (.sli (.var 2) .no (.so (.var 3))) (.idx (.cst (.str "A z0-_.:;9\n")) (.bin .mod (.bin .fdiv (.var 1) (.cst (.int 7))) (.cst (.int 11))))) (.sli (.var 2) (.so (.var 3)) .no)))
  (.seq (.ife (.or (.not (.call F__law_right (.ci (.var 2) (.ci (.call F__law_due (.ci (.var 2) .nil)) .nil)))) (.not (.call F__law_right (.ci (.var 4) (.ci (.call F__law_due (.ci (.var 4) .nil)) .nil)))))
  (.ret (.cst (.bl false)))
  .pass)
  (.ife (.or (.not (.call F__law_right (.ci (.mt .upper (.var 2) .nil) (.ci (.cst (.bl false)) .nil)))) (.not (.call F__law_right (.ci (.lst (.cons (.var 2) .nil)) (.ci (.cst (.bl false)) .nil)))))
  (.ret (.cst (.bl false)))
  .pass))))))
  (.seq (.for (.name 5) (.lst (.lst (.cons (.cst .non) (.cons (.cst (.int 5)) (.cons (.cst (.bl true)) (.cons (.tup (.cons (.cst (.str "a")) .nil)) (.cons (.lst (.cons (.cst (.str "a")) .nil)) (.cons (.dnew false) (.cons (.cst (.int 1)) .nil)))))))))
  (.ife (.not (.call F__law_right (.ci (.var 5) (.ci (.cst (.bl false)) .nil))))
  (.ret (.cst (.bl false)))
  .pass))
  (.ret (.and (.call F__law_right (.ci (.cst (.str "abcdefgh")) (.ci (.cst (.bl true)) .nil))) (.and (.call F__law_right (.ci (.cst (.str "abcdefghi")) (.ci (.cst (.bl false)) .nil))) (.call F__law_right (.ci (.cst (.str "")) (.ci (.cst (.bl false)) .nil))))))))
def F_law : Fn := mkFn 6 [false] b_law
@[simp] theorem io_law : F_law.io = [false] := rfl
def t_law : List (Str × GI) := [("_law_right", .fn F__law_right), ("_law_due", .fn F__law_due), ("len", .blt), ("_law_text", .fn F__law_text)]
def c_law : Cc := ⟨["_law_script", "_law_cell", "_law_text_here", "_law_at", "_law_other", "_law_thing"], defScope s_law, fun _ => true, (fun x => t_law.lookup x), 1, fun _ => [], []⟩
theorem k_law : css 4194304 c_law (defBody s_law) = some b_law := by kernel_rfl
theorem sc_law : FnScope c_law.N ["_law_script"] c_law.sc := ⟨rfl, rfl, rfl, by decide +kernel, rfl, by decide +kernel, by decide +kernel⟩
def d_law : He.DefD := ⟨("law", none), "law", "law", defArgs s_law, defBody s_law, defScope s_law, [], []⟩
/-! ### the head -/
def fn : List He.DefD := [d_is_word, d__law_mixed, d__law_text, d__law_due, d__law_right, d_law]
def fa : List He.Fa := [.glo "is_word", .glo "_law_mixed", .glo "_law_text", .glo "_law_due", .glo "_law_right", .glo "law", .free "all", .str "SMALL" "abcdefghijklmnopqrstuvwxyz", .free "len", .int "MOST_LETTERS" 8, .free "isinstance", .free "str", .free "range", .free "bool"]
abbrev R : PySem.W.OpenRow := PySem.W.OpenLaw.row PySem.Challenge.rw_farjump_k01_words
abbrev hk : PySem.W.Hook := He.hookD 4 fa fn
def ob (s : PySem.W.SharedT) : He.AlD := He.obsDG 4 fa fn (HandSHeadRun.getT s)
theorem ob_eq (s : PySem.W.SharedT) : ob s = hk.obs s.abs := He.obsDG_eq (HandSHeadRun.getT_eq s)
theorem run (w : World) : HandSHeadRun.RunEq R (PySem.W.view R.prog [9]) hk ob 4000 ["__name__", "SMALL", "MOST_LETTERS", "is_word", "_law_mixed", "_law_text", "_law_due", "_law_right"] w := by
  intro os
  kernel_rfl
theorem facts {P : Program} {w : World} {K : PySem.W.Frag} {h : Heap} {mg : Str → Option Value} {f : Addr} (X : K.In h) (G : h.Ns mainGlobals mg) (hfa : mg ("law" : Str) = some (.ref f)) (c : He.SaysD fa fn K) :
    ∃ fd : FuncData, (∀ (s : Shared) (v : Value), BindsTo s fd ⟨[v], []⟩ [("_law_script", v)]) ∧ ∀ base : Heap, K.In base → base.Ns mainGlobals mg → FnOk P w K mg base CX0 3 f fd ["_law_script"] (spFn ⟨K, fun _ => 0, fun _ => []⟩ F_law) := by
  obtain ⟨fd0, D0⟩ := c.def_ 0 (d := d_is_word) rfl
  obtain ⟨fd1, D1⟩ := c.def_ 1 (d := d__law_mixed) rfl
  obtain ⟨fd2, D2⟩ := c.def_ 2 (d := d__law_text) rfl
  obtain ⟨fd3, D3⟩ := c.def_ 3 (d := d__law_due) rfl
  obtain ⟨fd4, D4⟩ := c.def_ 4 (d := d__law_right) rfl
  obtain ⟨fd5, D5⟩ := c.def_ 5 (d := d_law) rfl
  have e := hfa.symm.trans (He.glo_ok X G (c.fact 5 (f := .glo "law") rfl))
  cases e
  have b := FunD.bindsA (ps := ["_law_script"]) D5 fun _ _ _ _ _ _ us hl => match us, hl with | [_], _ => rfl
  refine ⟨fd5, fun s v => b s [v] rfl, fun base _ _ => ?_⟩
  have T0 : ∀ p ∈ t_is_word, GOk P w K mg base ⟨K, fun _ => 0, fun _ => []⟩ 0 p.1 p.2 := by
    unfold t_is_word
    simp only [List.forall_mem_cons, List.not_mem_nil, false_implies, implies_true, and_true]
    exact ⟨He.free_ok X G (c.fact 6 (f := .free "all") rfl), gok_str (He.str_ok X G (c.fact 7 (f := .str "SMALL" "abcdefghijklmnopqrstuvwxyz") rfl)), He.free_ok X G (c.fact 8 (f := .free "len") rfl), gok_int (He.int_ok X G (c.fact 9 (f := .int "MOST_LETTERS" 8) rfl)), He.free_ok X G (c.fact 10 (f := .free "isinstance") rfl), He.free_ok X G (c.fact 11 (f := .free "str") rfl)⟩
  have g0 : GOk P w K mg base ⟨K, fun _ => 0, fun _ => []⟩ 1 "is_word" (.fn F_is_word) := fn_gok (k := 0) (ps := ["thing"]) D0 sc_is_word rfl rfl k_is_word rfl (by decide) (He.glo_ok X G (c.fact 0 (f := .glo "is_word") rfl)) (fun _ _ _ _ _ _ us hl => match us, hl with | [_], _ => rfl) (tab_ok T0)
  have T1 : ∀ p ∈ t__law_mixed, GOk P w K mg base ⟨K, fun _ => 0, fun _ => []⟩ 0 p.1 p.2 := by
    unfold t__law_mixed
    intro p hp; cases hp
  have g1 : GOk P w K mg base ⟨K, fun _ => 0, fun _ => []⟩ 1 "_law_mixed" (.fn F__law_mixed) := fn_gok (k := 0) (ps := ["_law_cell", "_law_k"]) D1 sc__law_mixed rfl rfl k__law_mixed rfl (by decide) (He.glo_ok X G (c.fact 1 (f := .glo "_law_mixed") rfl)) (fun _ _ _ _ _ _ us hl => match us, hl with | [_, _], _ => rfl) (tab_ok T1)
  have T2 : ∀ p ∈ t__law_text, GOk P w K mg base ⟨K, fun _ => 0, fun _ => []⟩ 1 p.1 p.2 := by
    unfold t__law_text
    simp only [List.forall_mem_cons, List.not_mem_nil, false_implies, implies_true, and_true]
    exact ⟨He.free_ok X G (c.fact 12 (f := .free "range") rfl), GOk.mono (by decide) g1⟩
  have g2 : GOk P w K mg base ⟨K, fun _ => 0, fun _ => []⟩ 2 "_law_text" (.fn F__law_text) := fn_gok (k := 1) (ps := ["_law_cell"]) D2 sc__law_text rfl rfl k__law_text rfl (by decide) (He.glo_ok X G (c.fact 2 (f := .glo "_law_text") rfl)) (fun _ _ _ _ _ _ us hl => match us, hl with | [_], _ => rfl) (tab_ok T2)
  have T3 : ∀ p ∈ t__law_due, GOk P w K mg base ⟨K, fun _ => 0, fun _ => []⟩ 0 p.1 p.2 := by
    unfold t__law_due
    simp only [List.forall_mem_cons, List.not_mem_nil, false_implies, implies_true, and_true]
    exact He.free_ok X G (c.fact 8 (f := .free "len") rfl)
  have g3 : GOk P w K mg base ⟨K, fun _ => 0, fun _ => []⟩ 1 "_law_due" (.fn F__law_due) := fn_gok (k := 0) (ps := ["_law_text_here"]) D3 sc__law_due rfl rfl k__law_due rfl (by decide) (He.glo_ok X G (c.fact 3 (f := .glo "_law_due") rfl)) (fun _ _ _ _ _ _ us hl => match us, hl with | [_], _ => rfl) (tab_ok T3)
  have T4 : ∀ p ∈ t__law_right, GOk P w K mg base ⟨K, fun _ => 0, fun _ => []⟩ 1 p.1 p.2 := by
    unfold t__law_right
    simp only [List.forall_mem_cons, List.not_mem_nil, false_implies, implies_true, and_true]
    exact ⟨He.free_ok X G (c.fact 10 (f := .free "isinstance") rfl), He.free_ok X G (c.fact 13 (f := .free "bool") rfl), GOk.mono (by decide) g0⟩
  have g4 : GOk P w K mg base ⟨K, fun _ => 0, fun _ => []⟩ 2 "_law_right" (.fn F__law_right) := fn_gok (k := 1) (ps := ["_law_thing", "_law_due_here"]) D4 sc__law_right rfl rfl k__law_right rfl (by decide) (He.glo_ok X G (c.fact 4 (f := .glo "_law_right") rfl)) (fun _ _ _ _ _ _ us hl => match us, hl with | [_, _], _ => rfl) (tab_ok T4)
  have T5 : ∀ p ∈ t_law, GOk P w K mg base ⟨K, fun _ => 0, fun _ => []⟩ 2 p.1 p.2 := by
    unfold t_law
    simp only [List.forall_mem_cons, List.not_mem_nil, false_implies, implies_true, and_true]
    exact ⟨GOk.mono (by decide) g4, GOk.mono (by decide) g3, He.free_ok X G (c.fact 8 (f := .free "len") rfl), GOk.mono (by decide) g2⟩
  exact fn_ok (k := 2) D5 sc_law rfl rfl k_law rfl (by decide) (tab_ok T5)
end FL

namespace FL
open PySem L2 FJ
theorem mixed_run (c k : Int) : ∃ m : Int, F__law_mixed.run [.fr (.int c), .fr (.int k)] = some (.fr (.int m), [some (.fr (.int c)), some (.fr (.int k))]) := by
  have h0 : ∀ x : Int, 0 ≤ x % 2147483647 ∧ x % 2147483647 < 2147483647 := fun x => ⟨Int.emod_nonneg _ (by decide), Int.emod_lt_of_pos _ (by decide)⟩
  generalize hn : (c % 2147483647 + 7919 * k + 1) * 48271 % 2147483647 = n
  have hn1 := h0 ((c % 2147483647 + 7919 * k + 1) * 48271)
  rw [hn] at hn1
  have m1 : mulOk n (n / 1009 + 69621) = true := by
    unfold mulOk
    rw [Bool.or_eq_true, decide_eq_true_eq]
    left; omega
  generalize hm : n * (n / 1009 + 69621) % 2147483647 = m
  have hm1 := h0 (n * (n / 1009 + 69621))
  rw [hm] at hm1
  have m2 : mulOk (m + 31 * k) (m / 16807 + 40692) = true := by
    unfold mulOk
    rw [Bool.or_eq_true, decide_eq_true_eq, decide_eq_true_eq]
    right; omega
  have c1 : ∀ x, mulOk x 48271 = true := fun x => by unfold mulOk; simp
  have c2 : ∀ x, mulOk 7919 x = true := fun x => by unfold mulOk; simp
  have c3 : ∀ x, mulOk 31 x = true := fun x => by unfold mulOk; simp
  have d1 : divOk 1009 = true := by decide
  have d2 : divOk 16807 = true := by decide
  refine ⟨(m + 31 * k) * (m / 16807 + 40692) % 2147483629, ?_⟩
  obtain ⟨t, rp, h1, h2, h3⟩ := run_by (n := 3) (io := [false, false]) (b := b__law_mixed) (ts := [.fr (.int c), .fr (.int k)]) (Q := fun t rp => t = .fr (.int ((m + 31 * k) * (m / 16807 + 40692) % 2147483629)) ∧ rp = [some (.fr (.int c)), some (.fr (.int k))]) rfl (by
    simp [b__law_mixed, binD, c1, c2, c3, d1, d2, hn, m1, hm, m2])
  rw [← h2, ← h3]; exact h1
def abc : Str := "abcdefghijklmnopqrstuvwxyz"
def sm (c : Nat) : Bool := decide (c ∈ abc.cps.toList)
def Small (z : Str) : Prop := z.cps.toList.all sm = true
def isW (z : Str) : Bool := decide (1 ≤ z.length) && decide (z.length ≤ 8) && z.cps.toList.all sm
theorem abc_at (x : Int) (h0 : 0 ≤ x) (h1 : x < 26) : ∃ c, at_ abc.cps.toList x = some c ∧ sm c = true := by
  obtain ⟨n, rfl⟩ := Int.eq_ofNat_of_zero_le h0
  have hn : n < 26 := by omega
  revert hn
  have : ∀ n : Fin 26, (match at_ abc.cps.toList (n.val : Int) with | some c => sm c | none => false) = true := by decide +kernel
  intro hn
  have h := this ⟨n, hn⟩
  split at h
  · rename_i c hc; exact ⟨c, hc, h⟩
  · cases h
theorem abc_len : abc.length ≤ sizeLine := by decide +kernel
theorem app_len (a b : Str) : (a ++ b).length = a.length + b.length := by
  show (a.cps ++ b.cps).size = _
  simp [Str.length]
theorem app_small {a b : Str} (ha : Small a) (hb : Small b) : Small (a ++ b) := by
  show ((a.cps ++ b.cps).toList.all sm) = true
  rw [Array.toList_append, List.all_append]
  unfold Small at ha hb
  rw [ha, hb]; rfl
theorem line_big : 100 ≤ sizeLine := by decide +kernel
theorem small_one {x : Nat} (h : sm x = true) : Small ⟨#[x]⟩ := by simp [Small, h]
def IT (c : Int) (i : Nat) (r : FJ.Env) : Prop := ∃ (a : Int) (t : Str) (k : Option T), r = [some (.fr (.int c)), some (.fr (.int a)), some (.fr (.str t)), k] ∧ t.length = i ∧ Small t
theorem text_run (c : Int) : ∃ t : Str, F__law_text.run [.fr (.int c)] = some (.fr (.str t), [some (.fr (.int c))]) ∧ t.length ≤ 10 ∧ Small t := by
  have d1 : divOk 22 = true := by decide
  have d2 : divOk 2 = true := by decide
  have d3 : divOk 26 = true := by decide
  have hr0 : 0 ≤ c / 2 % 11 := Int.emod_nonneg _ (by decide)
  have hr1 : c / 2 % 11 < 11 := Int.emod_lt_of_pos _ (by decide)
  have hb1 : -4611686018427387904 ≤ c / 2 % 11 := by omega
  have hb2 : c / 2 % 11 < 4611686018427387904 := by omega
  have hz : Str.length "abcdefghijklmnopqrstuvwxyz" ≤ sizeLine := abc_len
  obtain ⟨t, rp, h1, z, rfl, rfl, h2, h3⟩ := run_by (n := 4) (io := [false]) (b := b__law_text) (ts := [.fr (.int c)]) (Q := fun t rp => ∃ z : Str, t = .fr (.str z) ∧ rp = [some (.fr (.int c))] ∧ z.length ≤ 10 ∧ Small z) rfl (by
    simp [b__law_text, binD, d1, d2]
    refine WP_for (ds := (List.range (c / 2 % 11).toNat).map fun (i : Nat) => .int i) (hid := none) (r1 := [some (.fr (.int c)), some (.fr (.int (c / 22))), some (.fr (.str "")), none])
      (IT c) (by simp [evi, binD, d2, rngD, hb1, hb2]) ⟨c / 22, "", none, rfl, rfl, rfl⟩ rfl ?_ ?_
    · rintro i d r hd ⟨a, t, k, rfl, hl, hs⟩
      have hi : i < (c / 2 % 11).toNat := by
        have := ltOf hd
        simpa using this
      rw [List.getElem?_map, List.getElem?_range hi] at hd
      cases hd
      have fits : ∀ x : Nat, t.length + (⟨#[x]⟩ : Str).length ≤ sizeLine := fun x => by
        have := line_big
        show t.length + 1 ≤ _
        omega
      refine ⟨_, rfl, ?_⟩
      by_cases hc : c % 2 = 0
      · obtain ⟨x, hx, hsx⟩ := abc_at (a % 26) (Int.emod_nonneg _ (by decide)) (Int.emod_lt_of_pos _ (by decide))
        have hx' : at_ (Str.cps "abcdefghijklmnopqrstuvwxyz").toList (a % 26) = some x := hx
        simp [binD, cmpD, idxD, hc, d3, hx', hz, fits]
        exact ⟨_, _, _, rfl, by rw [app_len, hl]; rfl, app_small hs (small_one hsx)⟩
      · obtain ⟨m, hm⟩ := mixed_run a i
        obtain ⟨x, hx, hsx⟩ := abc_at (m % 26) (Int.emod_nonneg _ (by decide)) (Int.emod_lt_of_pos _ (by decide))
        have hx' : at_ (Str.cps "abcdefghijklmnopqrstuvwxyz").toList (m % 26) = some x := hx
        simp [binD, cmpD, idxD, hc, d3, hx', hz, fits, hm]
        exact ⟨_, _, _, rfl, by rw [app_len, hl]; rfl, app_small hs (small_one hsx)⟩
    · rintro r ⟨a, t, k, rfl, hl, hs⟩
      simp [showE]
      exact ⟨by rw [hl]; simp; omega, hs⟩)
  exact ⟨z, h1, h2, h3⟩
/-! ### what a word is -/
theorem mem_abc (c : Nat) : decide (c ∈ Str.cps "abcdefghijklmnopqrstuvwxyz") = sm c := by simp [sm, abc]
theorem isw_str (z : Str) (hz : z.length ≤ sizeLine) : F_is_word.run [.fr (.str z)] = some (.fr (.bl (isW z)), [some (.fr (.str z))]) := by
  have hl : z.cps.toList.length = z.length := by simp [Str.length]
  have hc : compL (fun r => evc .no r) (fun r => ev (.cmp .inn (.var 1) (.cst (.str "abcdefghijklmnopqrstuvwxyz"))) r) (.name 1) (z.cps.toList.map fun c => .str ⟨#[c]⟩) [some (.fr (.str z)), none] [] =
      .ok (z.cps.toList.map fun c => .bl (sm c)) [some (.fr (.str z)), none] := by
    rw [compL_map (g := fun d => match d with | .str z => .bl (z.cps.toList.all sm) | _ => .non) rfl]
    · simp [List.map_map]
    · intro d hd; simp
    · intro d hd
      obtain ⟨c, _, rfl⟩ := List.mem_map.mp hd
      simp [cmpD, mem_abc]
    · simp; exact hz
  have hb : blsOf (z.cps.toList.map fun c => .bl (sm c)) = some (z.cps.toList.map sm) := by
    generalize z.cps.toList = l
    induction l with
    | nil => rfl
    | cons c l ih => simp [blsOf, ih]
  obtain ⟨t, rp, h1, h2, h3⟩ := run_by (n := 2) (io := [false]) (b := b_is_word) (ts := [.fr (.str z)]) (Q := fun t rp => t = .fr (.bl (isW z)) ∧ rp = [some (.fr (.str z))]) rfl (by
    by_cases h8 : 1 ≤ z.length ∧ z.length ≤ 8
    · obtain ⟨h8, h9⟩ := h8
      have g1 : (1 : Int) ≤ (z.length : Int) := by omega
      have g2 : (z.length : Int) ≤ 8 := by omega
      have hcc : ev (.comp (.cmp .inn (.var 1) (.cst (.str "abcdefghijklmnopqrstuvwxyz"))) (.name 1) (.lst (.var 0)) .no) [some (.fr (.str z)), none] = .ok (.v (.ow (.lst (z.cps.toList.map fun c => .bl (sm c))))) [some (.fr (.str z)), none] :=
        (ev_comp (hid := none) (r0 := [some (.fr (.str z)), none]) (by simp [evi, seqD]) rfl hc)
      have w : isW z = z.cps.toList.all sm := by simp [isW, h8, h9]
      simp [b_is_word, isD, cmpD, biD, hz, g1, g2, hcc, hb, w]
    · have g : (decide ((1 : Int) ≤ (z.length : Int)) && decide ((z.length : Int) ≤ 8)) = false := by
        rw [Bool.and_eq_false_iff, decide_eq_false_iff_not, decide_eq_false_iff_not]
        omega
      have w : isW z = false := by
        unfold isW
        have : (decide (1 ≤ z.length) && decide (z.length ≤ 8)) = false := by
          rw [Bool.and_eq_false_iff, decide_eq_false_iff_not, decide_eq_false_iff_not]
          omega
        rw [this]; rfl
      simp [b_is_word, isD, cmpD, biD, hz, g, w])
  rw [← h2, ← h3]; exact h1
theorem isw_no (d : D) (h : isD .str d = some false) : F_is_word.run [.fr d] = some (.fr (.bl false), [some (.fr d)]) := by
  obtain ⟨t, rp, h1, h2, h3⟩ := run_by (n := 2) (io := [false]) (b := b_is_word) (ts := [.fr d]) (Q := fun t rp => t = .fr (.bl false) ∧ rp = [some (.fr d)]) rfl (by
    simp [b_is_word, h])
  rw [← h2, ← h3]; exact h1
def ID (z : Str) (i : Nat) (r : FJ.Env) : Prop := (∃ k : Option T, r = [some (.fr (.str z)), k]) ∧ (z.cps.toList.take i).all sm = true
theorem due_run (z : Str) (hz : z.length ≤ sizeLine) : F__law_due.run [.fr (.str z)] = some (.fr (.bl (isW z)), [some (.fr (.str z))]) := by
  obtain ⟨t, rp, h1, h2, h3⟩ := run_by (n := 2) (io := [false]) (b := b__law_due) (ts := [.fr (.str z)]) (Q := fun t rp => t = .fr (.bl (isW z)) ∧ rp = [some (.fr (.str z))]) rfl (by
    simp [b__law_due]
    refine WP_for (ds := z.cps.toList.map fun c => .str ⟨#[c]⟩) (hid := none) (r1 := [some (.fr (.str z)), none]) (ID z) (by simp [evi, seqD]) ⟨⟨none, rfl⟩, rfl⟩ rfl ?_ ?_
    · rintro i d r hd ⟨⟨k, rfl⟩, hs⟩
      rw [List.getElem?_map] at hd
      cases hc : z.cps.toList[i]? with
      | none => rw [hc] at hd; cases hd
      | some c =>
        rw [hc] at hd
        cases hd
        refine ⟨_, rfl, ?_⟩
        cases hsm : sm c with
        | true =>
          have hm : c ∈ Str.cps "abcdefghijklmnopqrstuvwxyz" := by rw [← mem_abc] at hsm; exact of_decide_eq_true hsm
          simp [cmpD, hm]
          refine ⟨⟨_, rfl⟩, ?_⟩
          rw [List.take_add_one, hc, List.all_append, hs]
          simp [hsm]
        | false =>
          have hm : ¬ c ∈ Str.cps "abcdefghijklmnopqrstuvwxyz" := by rw [← mem_abc] at hsm; exact of_decide_eq_false hsm
          simp [cmpD, hm]
          unfold isW
          have : z.cps.toList.all sm = false := by
            rw [List.all_eq_false]
            exact ⟨c, List.mem_of_getElem? hc, by simp [hsm]⟩
          rw [this]; simp
    · rintro r ⟨⟨k, rfl⟩, hs⟩
      rw [List.length_map, List.take_length] at hs
      have w : isW z = (decide ((1 : Int) ≤ (z.length : Int)) && decide ((z.length : Int) ≤ 8)) := by
        unfold isW
        have hs' : z.cps.toList.all sm = true := by
          have hl : z.cps.toList.length = z.cps.toList.length := rfl
          simpa using hs
        rw [hs', Bool.and_true]
        congr 1
        · exact decide_eq_decide.mpr (by omega)
        · exact decide_eq_decide.mpr (by omega)
      simp [showE, cmpD, biD, hz, w])
  rw [← h2, ← h3]; exact h1
theorem right_run (d : D) (w due : Bool) (h : F_is_word.run [.fr d] = some (.fr (.bl w), [some (.fr d)])) : F__law_right.run [.fr d, .fr (.bl due)] = some (.fr (.bl (w == due)), [some (.fr d), some (.fr (.bl due))]) := by
  obtain ⟨t, rp, h1, h2, h3⟩ := run_by (n := 3) (io := [false, false]) (b := b__law_right) (ts := [.fr d, .fr (.bl due)]) (Q := fun t rp => t = .fr (.bl (w == due)) ∧ rp = [some (.fr d), some (.fr (.bl due))]) rfl (by
    simp [b__law_right, h, isD, cmpD])
  rw [← h2, ← h3]; exact h1
theorem up_abc : (abc.cps.toList.all fun c => (Unicode.upperOf c).all (fun d => !sm d) && !(Unicode.upperOf c).isEmpty) = true := by decide +kernel
theorem up_list (z : Str) : (Txt.upper z).cps.toList = (z.cps.toList.map Unicode.upperOf).flatten := by
  show (placed z fun _ c => Unicode.upperOf c).toList = _
  unfold placed
  have : (z.cps.mapIdx fun i c => (Unicode.upperOf c).toArray) = z.cps.map fun c => (Unicode.upperOf c).toArray := by
    apply Array.ext
    · simp
    · intro i h1 h2; simp
  rw [this]
  simp [Array.toList_flatten, Function.comp_def]
theorem up_no (z : Str) (h : Small z) : isW (Txt.upper z) = false := by
  unfold Small at h
  have hall : ∀ c ∈ z.cps.toList, (Unicode.upperOf c).all (fun d => !sm d) = true ∧ (Unicode.upperOf c).isEmpty = false := fun c hc => by
    have h1 := List.all_eq_true.mp h c hc
    have h2 := List.all_eq_true.mp up_abc c (of_decide_eq_true h1)
    simpa only [Bool.and_eq_true, Bool.not_eq_true'] using h2
  have hu := up_list z
  cases hz : z.cps.toList with
  | nil =>
    rw [hz] at hu
    have : (Txt.upper z).length = 0 := by
      show (Txt.upper z).cps.size = 0
      rw [← Array.length_toList, hu]; rfl
    unfold isW
    rw [this]; rfl
  | cons c l =>
    rw [hz] at hu hall
    obtain ⟨g1, g2⟩ := hall c (List.mem_cons_self ..)
    cases hc : Unicode.upperOf c with
    | nil => rw [hc] at g2; cases g2
    | cons d ds =>
      rw [hc] at g1
      have g3 : sm d = false := by
        simp only [List.all_cons, Bool.and_eq_true, Bool.not_eq_true'] at g1
        exact g1.1
      have : (Txt.upper z).cps.toList.all sm = false := by
        rw [hu, List.all_eq_false]
        exact ⟨d, by simp [hc], by simp [g3]⟩
      unfold isW
      rw [this, Bool.and_false]
theorem up_len (z : Str) : (Txt.upper z).length ≤ 3 * z.length := PyProof.Rows.placed_le3 z _ fun i c => StrLaws.upperOf_le3 c
theorem cutS_len (z : Str) (lo hi : Option Int) : (cutS z lo hi).length ≤ z.length := by
  unfold cutS
  show (List.toArray _).size ≤ _
  rw [List.size_toArray, List.length_take, List.length_drop, Array.length_toList]
  show _ ≤ z.cps.size
  omega
theorem odd_at (x : Int) (h0 : 0 ≤ x) (h1 : x < 11) : ∃ c, at_ (Str.cps "A z0-_.:;9\n").toList x = some c := by
  obtain ⟨n, rfl⟩ := Int.eq_ofNat_of_zero_le h0
  have hn : n < 11 := by omega
  have : ∀ n : Fin 11, (at_ (Str.cps "A z0-_.:;9\n").toList (n.val : Int)).isSome = true := by decide +kernel
  exact Option.isSome_iff_exists.mp (this ⟨n, hn⟩)
def IL (ns : List Int) (i : Nat) (r : FJ.Env) : Prop := ∃ a b c d : Option T, r = [some (.fr (.scr ns)), a, b, c, d, none]
def IM (ns : List Int) (i : Nat) (r : FJ.Env) : Prop := ∃ a b c d e : Option T, r = [some (.fr (.scr ns)), a, b, c, d, e]
end FL
namespace FL
open PySem L2 FJ
theorem law_runs (ns : List Int) (hl : ns.length ≤ 63) : ∃ rp, F_law.run [.fr (.scr ns)] = some (.fr (.bl true), rp) := by
  have big := line_big
  have d5 : divOk 5 = true := by decide
  have d7 : divOk 7 = true := by decide
  obtain ⟨t, rp, h1, h2⟩ := run_by (n := 6) (io := [false]) (b := b_law) (ts := [.fr (.scr ns)]) (Q := fun t rp => t = .fr (.bl true)) rfl (by
    simp [b_law]
    refine WP_for (ds := (cut ns none (some 30)).map .int) (hid := none) (r1 := [some (.fr (.scr ns)), none, none, none, none, none]) (IL ns) (by simp [evi, sliD, seqD]) ⟨_, _, _, _, rfl⟩ rfl ?_ ?_
    · rintro i d r hd ⟨a, b, c, d, rfl⟩
      rw [List.getElem?_map] at hd
      cases hc : (cut ns none (some 30))[i]? with
      | none => rw [hc] at hd; cases hd
      | some n =>
        rw [hc] at hd
        cases hd
        refine ⟨_, rfl, ?_⟩
        obtain ⟨t, ht, htl, hts⟩ := text_run n
        have p0 : (0 : Int) < 1 + (t.length : Int) := by omega
        have tl : t.length ≤ sizeLine := by omega
        obtain ⟨o, ho⟩ := odd_at (n / 7 % 11) (Int.emod_nonneg _ (by decide)) (Int.emod_lt_of_pos _ (by decide))
        have c1 := cutS_len t none (some (n / 5 % (1 + (t.length : Int))))
        have c2 := cutS_len t (some (n / 5 % (1 + (t.length : Int)))) none
        have f1 : (cutS t none (some (n / 5 % (1 + (t.length : Int))))).length + (⟨#[o]⟩ : Str).length ≤ sizeLine := by
          show _ + 1 ≤ _
          omega
        have f2 : (cutS t none (some (n / 5 % (1 + (t.length : Int)))) ++ (⟨#[o]⟩ : Str)).length + (cutS t (some (n / 5 % (1 + (t.length : Int)))) none).length ≤ sizeLine := by
          rw [app_len]
          show _ + 1 + _ ≤ _
          omega
        have ol : Str.length "A z0-_.:;9\n" ≤ sizeLine := by
          have : Str.length "A z0-_.:;9\n" = 11 := by decide +kernel
          omega
        have w1 := right_run (.str t) (isW t) (isW t) (isw_str t tl)
        have w2 := due_run t tl
        generalize hoth : cutS t none (some (n / 5 % (1 + (t.length : Int)))) ++ (⟨#[o]⟩ : Str) ++ cutS t (some (n / 5 % (1 + (t.length : Int)))) none = oth
        have othl : oth.length ≤ sizeLine := by
          rw [← hoth, app_len]; exact f2
        have w3 := right_run (.str oth) (isW oth) (isW oth) (isw_str oth othl)
        have w4 := due_run oth othl
        have ul : t.length ≤ 5592405 := by omega
        have w5 := right_run (.str (Txt.upper t)) false false (by rw [← up_no t hts]; exact isw_str _ (by have := up_len t; omega))
        have w6 := right_run (.lst [.str t]) false false (isw_no _ rfl)
        have l1 : 1 ≤ sizeLine := by omega
        simp [binD, sliD, idxD, biD, mtD, ht, d5, d7, p0, tl, ho, f1, f2, ol, hoth, w1, w2, w3, w4, w5, w6, ul, l1]
        exact ⟨_, _, _, _, rfl⟩
    · rintro r ⟨a, b, c, d, rfl⟩
      simp [showE]
      have l1 : 1 ≤ sizeLine := by omega
      have l7 : 7 ≤ sizeLine := by omega
      refine WP_for (ds := [.non, .int 5, .bl true, .tup [.str "a"], .lst [.str "a"], .dK [] [], .int 1]) (hid := none) (r1 := [some (.fr (.scr ns)), a, b, c, d, none]) (IM ns) (by simp [evi, seqD, l1, l7]) ⟨_, _, _, _, _, rfl⟩ rfl ?_ ?_
      · rintro i d0 r hd ⟨a, b, c, d, e, rfl⟩
        refine ⟨_, rfl, ?_⟩
        have hno : isD .str d0 = some false := by
          have := List.mem_of_getElem? hd
          simp at this
          rcases this with rfl | rfl | rfl | rfl | rfl | rfl | rfl <;> rfl
        have w := right_run d0 false false (isw_no _ hno)
        simp [w]
        exact ⟨_, _, _, _, _, rfl⟩
      · rintro r ⟨a, b, c, d, e, rfl⟩
        have w1 := right_run (.str "abcdefgh") true true (by
          have := isw_str "abcdefgh" (by have : Str.length "abcdefgh" = 8 := by decide +kernel
                                         omega)
          rw [show isW "abcdefgh" = true by decide +kernel] at this; exact this)
        have w2 := right_run (.str "abcdefghi") false false (by
          have := isw_str "abcdefghi" (by have : Str.length "abcdefghi" = 9 := by decide +kernel
                                          omega)
          rw [show isW "abcdefghi" = false by decide +kernel] at this; exact this)
        have w3 := right_run (.str "") false false (by
          have := isw_str "" (by have : Str.length "" = 0 := by decide +kernel
                                 omega)
          rw [show isW "" = false by decide +kernel] at this; exact this)
        simp [showE, w1, w2, w3])
  exact ⟨rp, by rw [← h2]; exact h1⟩
end FL
open PySem PySem.W PySem.Calls PyProof.Rows
theorem PySem.Challenge.cw_farjump_k01_words_holds : PySem.Challenge.rw_farjump_k01_words.Holds := by
  w_on; o_law
  refine HandSHeadRun.head_any (r := OpenLaw.row PySem.Challenge.rw_farjump_k01_words) (q := view (OpenLaw.row PySem.Challenge.rw_farjump_k01_words).prog [9]) (H := FL.hk) (ob := FL.ob) (M := 4000) (loose := ["__name__", "SMALL", "MOST_LETTERS", "is_word", "_law_mixed", "_law_text", "_law_due", "_law_right"]) (d := HandSHeadRun.topDef (OpenLaw.row PySem.Challenge.rw_farjump_k01_words).prog 9) (kwd := []) FL.ob_eq
    (by kernel_rfl) (fun s => by kernel_rfl) FL.run (by kernel_rfl) (by kernel_rfl) (by kernel_rfl) (by rfl) (by first | assumption | decide +kernel) (by decide +kernel) ⟨rfl, rfl, rfl, rfl, rfl, by decide +kernel⟩ ?hw ?hc
  case hw => w_witness2
  case hc =>
    refine L2.walk_ofE (l := PySem.Challenge.rw_farjump_k01_words) (n := 63) (k := 3) (x := "_law_script") (CX := L2.CX0) rfl (by decide) (by kernel_rfl) ⟨rfl, by decide, by decide⟩ ?F (fun _ _ _ _ z => z)
    intro w mg fa h Y G hmg0
    obtain ⟨K, KX, c⟩ := Y
    have hmg : mg ("law" : PySem.Str) = some (.ref fa) := by
      have e : (HandSHeadRun.topDef (OpenLaw.row PySem.Challenge.rw_farjump_k01_words).prog 9).name = ("law" : PySem.Str) := by kernel_rfl
      rw [← e]
      exact hmg0
    obtain ⟨fd, hb, hF⟩ := FL.facts (P := (PySem.Challenge.rw_farjump_k01_words).prog) (w := w) KX G hmg c
    exact ⟨K, fd, _, KX, hb, fun H a ns hl _ hS => FJ.law_sp rfl rfl (FL.law_runs ns hl) hS (fun _ => rfl), hF⟩

