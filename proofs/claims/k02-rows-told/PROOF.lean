import PyProof.Rows.All
import Wide.All
import OpenK.AllK
import Wide.FinOn
import HandS.ForMost
import HandS.WrittenGet
import HandS.Wide
import HandS.TupAny
import HandS.Steps
import PyProof.P3Eq
import PyProof.NeData
import HandS.TupLen
import HandS.Flow
import HandS.IsInst
import PyProof.SumWalkG
import HandS.Walk
import HandS.Iter
import KE.GoesMore
import HandS.Comp
import HandS.Exc
import HandS.Head0
import HandS.Head1
import HandS.Head2
import HandS.HeadEnd
import HandS.HeadHook1
import HandS.HeadHook2
import HandS.HeadHook3
import HandS.HeadHook4
import PySem.Challenge.RW_farjump_k02_rows_told
set_option Elab.async false
set_option linter.all false
set_option maxRecDepth 100000
set_option maxHeartbeats 0
/-! Data as trees, where they stand, what is owned. -/
namespace FJ
open PySem L2

/-- a value as a tree -/
inductive D where
  | non | bl (b : Bool) | int (i : Int) | str (s : Str)
  | tup (xs : List D) | lst (xs : List D)
  | dK (ks : List Key) (vs : List D) | dT (ks : List (List Key)) (vs : List D)
  | obj (c : Nat) (fs : List D)
  | scr (ns : List Int)
  | tab (ks : List Str) (ds : List D) (ms : List Str)
  deriving Inhabited

/-- the module's part, the classes by number: where they stand, their fields in order -/
structure Ct where
  K : PySem.W.Frag
  cls : Nat → Addr
  fld : Nat → List Str
  w : World

/-- a written dict in its order -/
inductive KPairs : List DictEntry → List Str → List V → Prop
  | nil : KPairs [] [] []
  | cons {e : DictEntry} {k : Str} {t : Tok} {v : V} {es : List DictEntry} {ks : List Str} {vs : List V} : e.key = .str k t → RelV v e.val → KPairs es ks vs → KPairs (e :: es) (k :: ks) (v :: vs)
def KIts (K : PySem.W.Frag) (w : World) (p : Addr) (ks : List Str) (vs : List V) : Prop := ∃ es n, KDict K w p es n ∧ ks.Nodup ∧ KPairs es.toList ks vs
mutual
inductive Rep (C : Ct) (G : Hp) : D → V → Prop
  | non : Rep C G .non .non
  | bl {b : Bool} : Rep C G (.bl b) (.bl b)
  | int {i : Int} : Rep C G (.int i) (.int i)
  | str {s : Str} : Rep C G (.str s) (.str s)
  | tup {p : Addr} {vs : List V} {ds : List D} : G p = some (.tup vs) → Reps C G ds vs → Rep C G (.tup ds) (.ref p)
  | lst {p : Addr} {vs : List V} {ds : List D} : G p = some (.lst vs) → Reps C G ds vs → Rep C G (.lst ds) (.ref p)
  | scr {p : Addr} {ns : List Int} : SqL C.K G p (ns.map V.int) → Rep C G (.scr ns) (.ref p)
  | dK {p : Addr} {ks : List Key} {vs : List V} {ds : List D} : G p = some (.dK (ks.zip vs)) → ks.length = ds.length → Reps C G ds vs → Rep C G (.dK ks ds) (.ref p)
  | dT {p : Addr} {ks : List (List Key)} {vs : List V} {ds : List D} : G p = some (.dT (ks.zip vs)) → ks.length = ds.length → Reps C G ds vs → Rep C G (.dT ks ds) (.ref p)
  | obj {p dx : Addr} {c : Nat} {vs : List V} {ds : List D} : G p = some (.ins (C.cls c) dx ((C.fld c).zip vs)) → Reps C G ds vs → Rep C G (.obj c ds) (.ref p)
  | tab {p : Addr} {ks ms : List Str} {vs : List V} {ds : List D} : KIts C.K C.w p ks vs → (p == sysModules) = false → (∀ (i : Nat) (k : Str), ks[i]? = some k → ∃ v, vs[i]? = some v ∧ KDct C.K C.w p k v) → (∀ m ∈ ms, KMiss C.K C.w p m) → Reps C G ds vs → Rep C G (.tab ks ds ms) (.ref p)
inductive Reps (C : Ct) (G : Hp) : List D → List V → Prop
  | nil : Reps C G [] []
  | cons {d : D} {v : V} {ds : List D} {vs : List V} : Rep C G d v → Reps C G ds vs → Reps C G (d :: ds) (v :: vs)
end

/-- one mutable object whose parts stand still -/
inductive Flat (C : Ct) (G : Hp) : D → HO → Prop
  | lst {ds : List D} {vs : List V} : Reps C G ds vs → Flat C G (.lst ds) (.lst vs)
  | dK {ks : List Key} {ds : List D} {vs : List V} : ks.length = ds.length → Reps C G ds vs → Flat C G (.dK ks ds) (.dK (ks.zip vs))
  | dT {ks : List (List Key)} {ds : List D} {vs : List V} : ks.length = ds.length → Reps C G ds vs → Flat C G (.dT ks ds) (.dT (ks.zip vs))
  | obj {c : Nat} {dx : Addr} {ds : List D} {vs : List V} : Reps C G ds vs → Flat C G (.obj c ds) (.ins (C.cls c) dx ((C.fld c).zip vs))

/-- a value and who may change it: fr stands still, ow is ours with parts that stand still, the others are ours with parts of ours -/
inductive T where
  | fr (d : D) | ow (d : D)
  | nl (ts : List T) | nt (ts : List T) | nd (ks : List Key) (ts : List T) | no (c : Nat) (ts : List T)
  deriving Inhabited
mutual
def T.toD : T → D
  | .fr d => d
  | .ow d => d
  | .nl ts => .lst (T.toDs ts)
  | .nt ts => .tup (T.toDs ts)
  | .nd ks ts => .dK ks (T.toDs ts)
  | .no c ts => .obj c (T.toDs ts)
def T.toDs : List T → List D
  | [] => []
  | t :: ts => T.toD t :: T.toDs ts
end

mutual
inductive Own (C : Ct) (G H : Hp) : T → V → (Addr → Prop) → Prop
  | fr {d : D} {v : V} {A : Addr → Prop} : Rep C G d v → (∀ a, ¬ A a) → Own C G H (.fr d) v A
  | ow {d : D} {p : Addr} {o : HO} {A : Addr → Prop} : H p = some o → G p = none → Flat C G d o → (∀ a, A a ↔ a = p) → Own C G H (.ow d) (.ref p) A
  | nl {ts : List T} {p : Addr} {vs : List V} {A B : Addr → Prop} : H p = some (.lst vs) → G p = none → Owns C G H ts vs B → ¬ B p → (∀ a, A a ↔ a = p ∨ B a) → Own C G H (.nl ts) (.ref p) A
  | nt {ts : List T} {p : Addr} {vs : List V} {A B : Addr → Prop} : H p = some (.tup vs) → G p = none → Owns C G H ts vs B → ¬ B p → (∀ a, A a ↔ a = p ∨ B a) → Own C G H (.nt ts) (.ref p) A
  | nd {ks : List Key} {ts : List T} {p : Addr} {vs : List V} {A B : Addr → Prop} : H p = some (.dK (ks.zip vs)) → G p = none → ks.length = ts.length → Owns C G H ts vs B → ¬ B p → (∀ a, A a ↔ a = p ∨ B a) → Own C G H (.nd ks ts) (.ref p) A
  | no {c : Nat} {ts : List T} {p dx : Addr} {vs : List V} {A B : Addr → Prop} : H p = some (.ins (C.cls c) dx ((C.fld c).zip vs)) → G p = none → Owns C G H ts vs B → ¬ B p → (∀ a, A a ↔ a = p ∨ B a) → Own C G H (.no c ts) (.ref p) A
inductive Owns (C : Ct) (G H : Hp) : List T → List V → (Addr → Prop) → Prop
  | nil {A : Addr → Prop} : (∀ a, ¬ A a) → Owns C G H [] [] A
  | cons {t : T} {v : V} {ts : List T} {vs : List V} {A B D : Addr → Prop} : Own C G H t v A → Owns C G H ts vs B → (∀ a, A a → ¬ B a) → (∀ a, D a ↔ A a ∨ B a) → Owns C G H (t :: ts) (v :: vs) D
end

section
variable {C : Ct} {G G' H H' : Hp}
mutual
theorem Rep.mono (s : Same G G') : ∀ {d : D} {v : V}, Rep C G d v → Rep C G' d v
  | _, _, .non => .non
  | _, _, .bl => .bl
  | _, _, .int => .int
  | _, _, .str => .str
  | _, _, .tup h r => .tup (s _ _ h) (Reps.mono s r)
  | _, _, .lst h r => .lst (s _ _ h) (Reps.mono s r)
  | _, _, .scr h => .scr (Same.seq s h)
  | _, _, .dK h l r => .dK (s _ _ h) l (Reps.mono s r)
  | _, _, .dT h l r => .dT (s _ _ h) l (Reps.mono s r)
  | _, _, .obj h r => .obj (s _ _ h) (Reps.mono s r)
  | _, _, .tab z a b c r => .tab z a b c (Reps.mono s r)
theorem Reps.mono (s : Same G G') : ∀ {ds : List D} {vs : List V}, Reps C G ds vs → Reps C G' ds vs
  | _, _, .nil => .nil
  | _, _, .cons a b => .cons (Rep.mono s a) (Reps.mono s b)
end
theorem Reps.length : ∀ {ds : List D} {vs : List V}, Reps C G ds vs → ds.length = vs.length
  | _, _, .nil => rfl
  | _, _, .cons _ b => by simp [Reps.length b]
theorem Reps.get : ∀ {ds : List D} {vs : List V} {i : Nat} {d : D}, Reps C G ds vs → ds[i]? = some d → ∃ v, vs[i]? = some v ∧ Rep C G d v
  | _, _, _, _, .nil, e => by simp at e
  | _, _, 0, _, .cons a _, e => by simp at e; subst e; exact ⟨_, rfl, a⟩
  | _, _, i + 1, _, .cons _ b, e => by
    obtain ⟨v, h1, h2⟩ := Reps.get (i := i) b (by simpa using e)
    exact ⟨v, by simpa using h1, h2⟩
theorem Reps.getV : ∀ {ds : List D} {vs : List V} {i : Nat} {v : V}, Reps C G ds vs → vs[i]? = some v → ∃ d, ds[i]? = some d ∧ Rep C G d v
  | _, _, _, _, .nil, e => by simp at e
  | _, _, 0, _, .cons a _, e => by simp at e; subst e; exact ⟨_, rfl, a⟩
  | _, _, i + 1, _, .cons _ b, e => by
    obtain ⟨v, h1, h2⟩ := Reps.getV (i := i) b (by simpa using e)
    exact ⟨v, by simpa using h1, h2⟩
theorem Reps.app : ∀ {ds es : List D} {vs us : List V}, Reps C G ds vs → Reps C G es us → Reps C G (ds ++ es) (vs ++ us)
  | _, _, _, _, .nil, s => s
  | _, _, _, _, .cons a b, s => .cons a (Reps.app b s)
theorem Reps.take : ∀ {ds : List D} {vs : List V} (n : Nat), Reps C G ds vs → Reps C G (ds.take n) (vs.take n)
  | _, _, 0, _ => .nil
  | _, _, _ + 1, .nil => .nil
  | _, _, n + 1, .cons a b => .cons a (Reps.take n b)
theorem Reps.drop : ∀ {ds : List D} {vs : List V} (n : Nat), Reps C G ds vs → Reps C G (ds.drop n) (vs.drop n)
  | _, _, 0, r => r
  | _, _, _ + 1, .nil => .nil
  | _, _, n + 1, .cons _ b => Reps.drop n b
theorem Reps.set : ∀ {ds : List D} {vs : List V} {d : D} {v : V} (i : Nat), Rep C G d v → Reps C G ds vs → Reps C G (ds.set i d) (vs.set i v)
  | _, _, _, _, _, _, .nil => .nil
  | _, _, _, _, 0, r, .cons _ b => .cons r b
  | _, _, _, _, i + 1, r, .cons a b => .cons a (Reps.set i r b)
theorem Reps.one {d : D} {v : V} (r : Rep C G d v) : Reps C G [d] [v] := .cons r .nil
theorem Flat.mono (s : Same G G') {d : D} {o : HO} (f : Flat C G d o) : Flat C G' d o := by
  cases f with
  | lst r => exact .lst (Reps.mono s r)
  | dK l r => exact .dK l (Reps.mono s r)
  | dT l r => exact .dT l (Reps.mono s r)
  | obj r => exact .obj (Reps.mono s r)
theorem Flat.rep {d : D} {o : HO} {p : Addr} (f : Flat C G d o) (h : G p = some o) : Rep C G d (.ref p) := by
  cases f with
  | lst r => exact .lst h r
  | dK l r => exact .dK h l r
  | dT l r => exact .dT h l r
  | obj r => exact .obj h r
mutual
theorem Own.dom : ∀ {t : T} {v : V} {A : Addr → Prop} {a : Addr}, Own C G H t v A → A a → G a = none ∧ H a ≠ none
  | _, _, _, _, .fr _ n, h => (n _ h).elim
  | _, _, _, _, .ow h1 h2 _ e, h => by have := (e _).mp h; subst this; exact ⟨h2, by rw [h1]; simp⟩
  | _, _, _, _, .nl h1 h2 o _ e, h => by
    rcases (e _).mp h with rfl | h
    · exact ⟨h2, by rw [h1]; simp⟩
    · exact Owns.dom o h
  | _, _, _, _, .nt h1 h2 o _ e, h => by
    rcases (e _).mp h with rfl | h
    · exact ⟨h2, by rw [h1]; simp⟩
    · exact Owns.dom o h
  | _, _, _, _, .nd h1 h2 _ o _ e, h => by
    rcases (e _).mp h with rfl | h
    · exact ⟨h2, by rw [h1]; simp⟩
    · exact Owns.dom o h
  | _, _, _, _, .no h1 h2 o _ e, h => by
    rcases (e _).mp h with rfl | h
    · exact ⟨h2, by rw [h1]; simp⟩
    · exact Owns.dom o h
theorem Owns.dom : ∀ {ts : List T} {vs : List V} {A : Addr → Prop} {a : Addr}, Owns C G H ts vs A → A a → G a = none ∧ H a ≠ none
  | _, _, _, _, .nil n, h => (n _ h).elim
  | _, _, _, _, .cons o os _ e, h => by
    rcases (e _).mp h with h | h
    · exact Own.dom o h
    · exact Owns.dom os h
end
mutual
theorem Own.mono (s : Same G G') : ∀ {t : T} {v : V} {A : Addr → Prop}, Own C G H t v A → (∀ a, A a → G' a = none) → (∀ a o, A a → H a = some o → H' a = some o) → Own C G' H' t v A
  | _, _, _, .fr r n, _, _ => .fr (Rep.mono s r) n
  | _, _, _, .ow h1 h2 f e, g, k => .ow (k _ _ ((e _).mpr rfl) h1) (g _ ((e _).mpr rfl)) (Flat.mono s f) e
  | _, _, _, .nl h1 h2 o n e, g, k => .nl (k _ _ ((e _).mpr (.inl rfl)) h1) (g _ ((e _).mpr (.inl rfl))) (Owns.mono s o (fun a h => g a ((e a).mpr (.inr h))) fun a u h => k a u ((e a).mpr (.inr h))) n e
  | _, _, _, .nt h1 h2 o n e, g, k => .nt (k _ _ ((e _).mpr (.inl rfl)) h1) (g _ ((e _).mpr (.inl rfl))) (Owns.mono s o (fun a h => g a ((e a).mpr (.inr h))) fun a u h => k a u ((e a).mpr (.inr h))) n e
  | _, _, _, .nd h1 h2 l o n e, g, k => .nd (k _ _ ((e _).mpr (.inl rfl)) h1) (g _ ((e _).mpr (.inl rfl))) l (Owns.mono s o (fun a h => g a ((e a).mpr (.inr h))) fun a u h => k a u ((e a).mpr (.inr h))) n e
  | _, _, _, .no h1 h2 o n e, g, k => .no (k _ _ ((e _).mpr (.inl rfl)) h1) (g _ ((e _).mpr (.inl rfl))) (Owns.mono s o (fun a h => g a ((e a).mpr (.inr h))) fun a u h => k a u ((e a).mpr (.inr h))) n e
theorem Owns.mono (s : Same G G') : ∀ {ts : List T} {vs : List V} {A : Addr → Prop}, Owns C G H ts vs A → (∀ a, A a → G' a = none) → (∀ a o, A a → H a = some o → H' a = some o) → Owns C G' H' ts vs A
  | _, _, _, .nil n, _, _ => .nil n
  | _, _, _, .cons o os n e, g, k => .cons (Own.mono s o (fun a h => g a ((e a).mpr (.inl h))) fun a u h => k a u ((e a).mpr (.inl h))) (Owns.mono s os (fun a h => g a ((e a).mpr (.inr h))) fun a u h => k a u ((e a).mpr (.inr h))) n e
end
mutual
/-- what is owned is laid to what stands still -/
theorem Own.freeze (s : Same G G') : ∀ {t : T} {v : V} {A : Addr → Prop}, Own C G H t v A → (∀ a o, A a → H a = some o → G' a = some o) → Rep C G' t.toD v
  | _, _, _, .fr r n, _ => Rep.mono s r
  | _, _, _, .ow h1 h2 f e, k => Flat.rep (Flat.mono s f) (k _ _ ((e _).mpr rfl) h1)
  | _, _, _, .nl h1 h2 o n e, k => .lst (k _ _ ((e _).mpr (.inl rfl)) h1) (Owns.freeze s o fun a u h => k a u ((e a).mpr (.inr h)))
  | _, _, _, .nt h1 h2 o n e, k => .tup (k _ _ ((e _).mpr (.inl rfl)) h1) (Owns.freeze s o fun a u h => k a u ((e a).mpr (.inr h)))
  | _, _, _, .nd h1 h2 l o n e, k => .dK (k _ _ ((e _).mpr (.inl rfl)) h1) (by rw [l]; exact (T.toDs_length _).symm) (Owns.freeze s o fun a u h => k a u ((e a).mpr (.inr h)))
  | _, _, _, .no h1 h2 o n e, k => .obj (k _ _ ((e _).mpr (.inl rfl)) h1) (Owns.freeze s o fun a u h => k a u ((e a).mpr (.inr h)))
theorem Owns.freeze (s : Same G G') : ∀ {ts : List T} {vs : List V} {A : Addr → Prop}, Owns C G H ts vs A → (∀ a o, A a → H a = some o → G' a = some o) → Reps C G' (T.toDs ts) vs
  | _, _, _, .nil n, _ => .nil
  | _, _, _, .cons o os n e, k => .cons (Own.freeze s o fun a u h => k a u ((e a).mpr (.inl h))) (Owns.freeze s os fun a u h => k a u ((e a).mpr (.inr h)))
theorem T.toDs_length : ∀ ts : List T, (T.toDs ts).length = ts.length
  | [] => rfl
  | _ :: r => by simp [T.toDs, T.toDs_length r]
end
end
end FJ

/-! A small language over trees, and what it computes. -/
namespace FJ
open PySem L2

abbrev Env := List (Option T)
/-- what an expression hands on: a value of its own, or a part of what a slot owns -/
inductive Val where
  | v (t : T) | b (i : Nat) (t : T)
  deriving Inhabited
inductive R where
  | ok (x : Val) (r : Env) | stuck
  deriving Inhabited
inductive RL where
  | ok (ds : List D) (r : Env) | stuck
  deriving Inhabited
inductive RA where
  | ok (ts : List T) (r : Env) | stuck
  deriving Inhabited
inductive RI where
  | ok (ds : List D) (hid : Option (Nat × T)) (r : Env) | stuck
  deriving Inhabited
/-- what a statement comes to -/
inductive O where
  | nx (r : Env) | rt (t : T) (r : Env) | bk (r : Env) | ct (r : Env) | stuck
  deriving Inhabited

/-- a def: which parameters it may change (io), what it hands back, the parameters behind -/
structure Fn where
  io : List Bool
  run : List T → Option (T × Env)
def Fn.pure (f : Fn) : Bool := f.io.all (! ·)

inductive Bop where | add | sub | mul | fdiv | mod | pow
inductive Cop where | lt | le | gt | ge | eq | ne | inn | nin | isn | isnt
inductive BI where | sum2 | len | list | tuple | int | str | sum | all | any | max | min | divmod | sorted | dict
inductive MT where | upper | join | split | startswith | endswith | replace | partition | get | index
inductive Ty where | int | str | bool | list | tuple | dict | cls (k : Nat) (sub : List Nat)
inductive Tg where
  | name (i : Nat) | tup (ts : List Tg)
  deriving Inhabited

mutual
inductive E where
  | var (i : Nat) | cst (d : D) | neg (a : E)
  | bin (o : Bop) (a b : E) | cmp (o : Cop) (a b : E) | chain (o u : Cop) (a b c : E)
  | and (a b : E) | or (a b : E) | not (a : E) | ite (c a b : E)
  | tupo (as : Ar) | sub (a : E) (k : Nat) | lend (e : E)
  | tup (es : Es) | lst (es : Es) | dct (ks : List Key) (vs : Es) | dnew (t : Bool)
  | idx (a b : E) | sli (a : E) (lo hi : Oe) | fld (a : E) (f : Nat → Option Nat)
  | isi (a : E) (t : Ty) | bi (f : BI) (es : Es) | mt (m : MT) (a : E) (es : Es)
  | call (f : Fn) (as : Ar) | new (c : Nat) (f : Fn) (as : Ar) | meth (ms : Nat → Option Fn) (as : Ar)
  | comp (e : E) (tg : Tg) (it : It) (cd : Oe)
inductive Es where
  | nil | cons (e : E) (es : Es)
inductive Oe where
  | no | so (e : E)
inductive It where
  | lst (e : E) | lstf (e : E) | rng (es : Es) | enu (e : E) | zip (a b : E) | itm (e : E) | val (e : E)
inductive Ar where
  | nil | ci (e : E) (as : Ar) | cx (i : Nat) (as : Ar) | ct (e : E) (as : Ar)
end

/-! ### what has no effect on what is owned -/
mutual
def E.pu : E → Bool
  | .var _ => true | .cst _ => true | .neg a => a.pu
  | .bin _ a b => a.pu && b.pu | .cmp _ a b => a.pu && b.pu | .chain _ _ a b c => a.pu && (b.pu && c.pu)
  | .and a b => a.pu && b.pu | .or a b => a.pu && b.pu | .not a => a.pu | .ite c a b => c.pu && (a.pu && b.pu)
  | .tupo _ => false | .sub a _ => a.pu | .lend e => e.pu
  | .tup es => es.pu | .lst es => es.pu | .dct _ vs => vs.pu | .dnew _ => true
  | .idx a b => a.pu && b.pu | .sli a lo hi => a.pu && (lo.pu && hi.pu) | .fld a _ => a.pu
  | .isi a _ => a.pu | .bi _ es => es.pu | .mt _ a es => a.pu && es.pu
  | .call _ as => as.pu | .new _ _ _ => false | .meth _ as => as.pu
  | .comp e _ it cd => e.pu && (it.pu && cd.pu)
def Es.pu : Es → Bool
  | .nil => true | .cons e es => e.pu && es.pu
def Oe.pu : Oe → Bool
  | .no => true | .so e => e.pu
def It.pu : It → Bool
  | .lst e => e.pu | .lstf e => e.pu | .rng es => es.pu | .enu e => e.pu | .zip a b => a.pu && b.pu | .itm e => e.pu | .val e => e.pu
def Ar.pu : Ar → Bool
  | .nil => true | .ci e as => e.pu && as.pu | .cx _ _ => false | .ct _ _ => false
end

/-! ### values -/
def T.soft : T → Bool
  | .fr _ => true | .ow _ => true | _ => false
def Val.toD : Val → D
  | .v t => t.toD
  | .b _ t => t.toD
/-- what slot i owns stands still from now on -/
def frz (i : Nat) (r : Env) : Env := match r[i]? with
  | some (some t) => r.set i (some (.fr t.toD))
  | _ => r
/-- the value is read: where p, what a slot owns is read in its place -/
def useE (p : Bool) (x : Val) (r : Env) : Env := match x with
  | .v _ => r
  | .b i t => if p && t.soft then r else frz i r
/-- .. for a look that hands nothing on -/
def lookE (p : Bool) (x : Val) (r : Env) : Env := match x with
  | .v _ => r
  | .b i _ => if p then r else frz i r
def R.use (p : Bool) (r : R) (k : D → Env → R) : R := match r with
  | .ok x e => k x.toD (useE p x e)
  | .stuck => .stuck
def R.look (p : Bool) (r : R) (k : D → Env → R) : R := match r with
  | .ok x e => k x.toD (lookE p x e)
  | .stuck => .stuck
def F (d : D) (r : Env) : R := .ok (.v (.fr d)) r
def ofT (o : Option T) (r : Env) : R := match o with
  | some t => .ok (.v t) r
  | none => .stuck
def ofD (o : Option D) (r : Env) : R := match o with
  | some d => .ok (.v (.fr d)) r
  | none => .stuck

def mulOk (i j : Int) : Bool := decide (-18446744073709551616 < i ∧ i < 18446744073709551616) || decide (-18446744073709551616 < j ∧ j < 18446744073709551616)
def divOk (j : Int) : Bool := decide (0 < j ∧ j < 18446744073709551616)
def rep {α : Type} (n : Nat) (xs : List α) : List α := (List.replicate n xs).flatten
def Str.rep (n : Nat) (s : Str) : Str := ⟨(FJ.rep n s.cps.toList).toArray⟩
def binD : Bop → D → D → Option T
  | .add, .int i, .int j => some (.fr (.int (i + j)))
  | .add, .str a, .str b => if a.length + b.length ≤ sizeLine then some (.fr (.str (a ++ b))) else none
  | .add, .lst a, .lst b => if a.length + b.length ≤ sizeLine then some (.ow (.lst (a ++ b))) else none
  | .add, .tup a, .tup b => if a.length + b.length ≤ sizeLine then some (.fr (.tup (a ++ b))) else none
  | .sub, .int i, .int j => some (.fr (.int (i - j)))
  | .mul, .int i, .int j => if mulOk i j then some (.fr (.int (i * j))) else none
  | .mul, .lst a, .int j => if -9223372036854775808 ≤ j ∧ j < 9223372036854775808 ∧ a.length * j.toNat ≤ sizeLine then some (.ow (.lst (rep j.toNat a))) else none
  | .mul, .str a, .int j => if 1 ≤ j ∧ j ≤ 1000 ∧ a.length ≤ 1000 then some (.fr (.str (Str.rep j.toNat a))) else none
  | .fdiv, .int i, .int j => if divOk j then some (.fr (.int (i / j))) else none
  | .mod, .int i, .int j => if 0 < j then some (.fr (.int (i % j))) else none
  | .pow, .int i, .int j => if 0 ≤ j ∧ j ≤ 1000000 ∧ i.natAbs < 18446744073709551616 then some (.fr (.int (i ^ j.toNat))) else none
  | _, _, _ => none

mutual
def D.py : D → PyData
  | .non => .none | .bl b => .bool b | .int i => .int i | .str s => .str s
  | .tup xs => .tuple (D.pys xs) | .lst xs => .list (D.pys xs)
  | .dK _ _ => .dict [] | .dT _ _ => .dict [] | .obj _ _ => .dict [] | .scr _ => .dict [] | .tab _ _ _ => .dict []
def D.pys : List D → List PyData
  | [] => [] | d :: ds => D.py d :: D.pys ds
end
mutual
/-- data of None, truths, numbers, texts, lists, tuples, at most n deep -/
def D.plain : Nat → D → Bool
  | _, .non => true | _, .bl _ => true | _, .int _ => true | _, .str _ => true
  | 0, .tup _ => false | 0, .lst _ => false
  | n + 1, .tup xs => D.plains n xs | n + 1, .lst xs => D.plains n xs
  | _, .dK _ _ => false | _, .dT _ _ => false | _, .obj _ _ => false | _, .scr _ => false | _, .tab _ _ _ => false
def D.plains : Nat → List D → Bool
  | _, [] => true | n, d :: ds => D.plain n d && D.plains n ds
end
mutual
/-- may two things be compared -/
def cmpble : Nat → D → D → Bool
  | n + 1, .tup xs, .tup ys => cmpbles n xs ys
  | n + 1, .lst xs, .lst ys => xs.length != ys.length || cmpbles n xs ys
  | n, a, b => a.plain n && b.plain n
def cmpbles : Nat → List D → List D → Bool
  | n, x :: xs, y :: ys => cmpble n x y && cmpbles n xs ys
  | _, _, _ => true
end
/-- are two things equal -/
def eqD (a b : D) : Option Bool := if cmpble 60 a b then some (PyData.eqv a.py b.py) else none
def keyOf : D → Option Key
  | .int i => some (.inl i)
  | .str s => some (.inr s)
  | _ => none
def keysOf : List D → Option (List Key)
  | [] => some []
  | d :: ds => match keyOf d, keysOf ds with
    | some k, some ks => some (k :: ks)
    | _, _ => none
def look2 {κ α : Type} [DecidableEq κ] (k : κ) : List κ → List α → Option α
  | q :: ks, x :: xs => if q = k then some x else look2 k ks xs
  | _, _ => none
def inD : D → D → Option Bool
  | .str a, .str z => match a.cps.toList with
    | [c] => some (decide (c ∈ z.cps.toList))
    | _ => none
  | .str k, .tab ks _ ms => if ks.contains k then some true else if ms.contains k then some false else none
  | x, .lst ds => if x.plain 59 && D.plains 59 ds then some (ds.any fun y => PyData.eqv y.py x.py) else none
  | x, .dK ks ds => (keyOf x).map fun k => (look2 k ks ds).isSome
  | x, .tup ds => if x.plain 59 && D.plains 59 ds then some (ds.any fun y => PyData.eqv y.py x.py) else none
  | _, _ => none
def cmpD : Cop → D → D → Option Bool
  | .lt, .int i, .int j => some (decide (i < j))
  | .le, .int i, .int j => some (decide (i ≤ j))
  | .gt, .int i, .int j => some (decide (j < i))
  | .ge, .int i, .int j => some (decide (j ≤ i))
  | .eq, a, b => eqD a b
  | .ne, a, b => (eqD a b).map (! ·)
  | .inn, a, b => inD a b
  | .nin, a, b => (inD a b).map (! ·)
  | .isn, a, .non => some (match a with | .non => true | _ => false)
  | .isnt, a, .non => some (match a with | .non => false | _ => true)
  | .isn, .bl a, .bl b => some (a == b)
  | .isn, .non, .bl _ => some false
  | .isnt, .bl a, .bl b => some (!(a == b))
  | .isnt, .non, .bl _ => some true
  | _, _, _ => none
abbrev ixI := ixN
abbrev at_ {α : Type} (xs : List α) (i : Int) : Option α := atI xs i
def idxD : D → D → Option D
  | .tab ks ds _, .str k => look2 k ks ds
  | .scr ns, .int j => (at_ ns j).map .int
  | .lst ds, .int j => at_ ds j
  | .tup ds, .int j => at_ ds j
  | .str z, .int j => if z.length ≤ sizeLine then (match at_ z.cps.toList j with | some c => some (.str ⟨#[c]⟩) | none => none) else none
  | .dK ks vs, k => match keyOf k with
    | some k => look2 k ks vs
    | none => none
  | .dT ks vs, .tup xs => match keysOf xs with
    | some k => look2 k ks vs
    | none => none
  | _, _ => none
abbrev sIxI := HT.sIx
def cut {α : Type} (xs : List α) (lo hi : Option Int) : List α := (xs.drop (HT.sIx xs.length 0 lo)).take (HT.sIx xs.length xs.length hi - HT.sIx xs.length 0 lo)
def sliD : D → Option Int → Option Int → Option T
  | .scr ns, lo, hi => some (.ow (.lst ((cut ns lo hi).map .int)))
  | .lst ds, lo, hi => some (.ow (.lst (cut ds lo hi)))
  | .tup ds, lo, hi => some (.fr (.tup (cut ds lo hi)))
  | .str z, lo, hi => if z.length ≤ sizeLine then some (.fr (.str (cutS z lo hi))) else none
  | _, _, _ => none
def partD : D → Option (Option Int)
  | .int i => some (some i)
  | _ => none
def fldD (f : Nat → Option Nat) : D → Option D
  | .obj c ds => match f c with
    | some k => ds[k]?
    | none => none
  | _ => none
def isD : Ty → D → Option Bool
  | .cls n sub, .obj c _ => if c < n then some (sub.contains c) else none
  | .cls _ _, .tab _ _ _ => none
  | .cls _ _, .scr _ => none
  | .cls _ _, _ => some false
  | _, .obj _ _ => none
  | _, .tab _ _ _ => none
  | .int, .int _ => some true | .int, .bl _ => some true
  | .str, .str _ => some true | .bool, .bl _ => some true
  | .list, .lst _ => some true | .tuple, .tup _ => some true | .list, .scr _ => some true
  | .dict, .dK _ _ => some true | .dict, .dT _ _ => some true
  | _, _ => some false
def intsOf : List D → Option (List Int)
  | [] => some []
  | .int i :: ds => (intsOf ds).map (i :: ·)
  | _ => none
def blsOf : List D → Option (List Bool)
  | [] => some []
  | .bl i :: ds => (blsOf ds).map (i :: ·)
  | _ => none
def listsOf : List D → Option (List (List D))
  | [] => some []
  | .lst es :: ds => (listsOf ds).map (es :: ·)
  | _ => none
def maxI : Int → List Int → Int
  | m, [] => m
  | m, x :: xs => maxI (if x > m then x else m) xs
def minI : Int → List Int → Int
  | m, [] => m
  | m, x :: xs => minI (if x < m then x else m) xs
def biD : BI → List D → Option T
  | .len, [.scr ns] => some (.fr (.int ns.length))
  | .len, [.lst ds] => some (.fr (.int ds.length))
  | .len, [.tup ds] => some (.fr (.int ds.length))
  | .len, [.str z] => if z.length ≤ sizeLine then some (.fr (.int z.length)) else none
  | .len, [.dK _ vs] => some (.fr (.int vs.length))
  | .len, [.dT _ vs] => some (.fr (.int vs.length))
  | .list, [.lst ds] => some (.ow (.lst ds))
  | .list, [.tup ds] => some (.ow (.lst ds))
  | .tuple, [.lst ds] => some (.fr (.tup ds))
  | .tuple, [.tup ds] => some (.fr (.tup ds))
  | .int, [.int i] => some (.fr (.int i))
  | .int, [.bl b] => some (.fr (.int (if b then 1 else 0)))
  | .divmod, [.int i, .int j] => if 0 < j ∧ j < 1073741824 then some (.fr (.tup [.int (i / j), .int (i % j)])) else none
  | .sum2, [.lst ds, .lst es] => match listsOf ds with
    | some ls => if ds ≠ [] ∧ (es ++ ls.flatten).length ≤ sizeLine then some (.ow (.lst (es ++ ls.flatten))) else none
    | none => none
  | .sum, [.lst ds] => (intsOf ds).map fun ns => .fr (.int ns.sum)
  | .all, [.lst ds] => (blsOf ds).map fun bs => .fr (.bl (bs.all id))
  | .any, [.lst ds] => (blsOf ds).map fun bs => .fr (.bl (bs.any id))
  | .max, [.int i, .int j] => some (.fr (.int (if j > i then j else i)))
  | .min, [.int i, .int j] => some (.fr (.int (if j < i then j else i)))
  | _, _ => none
def atomD : D → Bool
  | .non => true | .bl _ => true | .int _ => true | .str _ => true | _ => false
def mtD : MT → D → List D → Option T
  | .get, .tab ks ds ms, [.str k, d] => match look2 k ks ds with
    | some v => some (.fr v)
    | none => if ms.contains k && atomD d then some (.fr d) else none
  | .upper, .str a, [] => if a.length ≤ 5592405 then some (.fr (.str (Txt.upper a))) else none
  | _, _, _ => none
/-- truth -/
def truD : D → Option Bool
  | .non => some false | .bl b => some b | .int i => some (i != 0)
  | .lst ds => some (!ds.isEmpty)
  | _ => none

mutual
def Tg.slots : Tg → List Nat
  | .name i => [i]
  | .tup ts => Tg.slotss ts
def Tg.slotss : List Tg → List Nat
  | [] => [] | t :: ts => t.slots ++ Tg.slotss ts
end
mutual
/-- a value that stands still is bound to a target -/
def Tg.bind : Tg → D → Env → Option Env
  | .name i, d, r => some (r.set i (some (.fr d)))
  | .tup ts, .tup ds, r => Tg.binds ts ds r
  | .tup _, _, _ => none
def Tg.binds : List Tg → List D → Env → Option Env
  | [], [], r => some r
  | t :: ts, d :: ds, r => match t.bind d r with
    | some r => Tg.binds ts ds r
    | none => none
  | _, _, _ => none
end
def wipeE : List Nat → Env → Env
  | [], r => r
  | i :: is, r => (wipeE is r).set i none
/-- the slots' own again -/
def backE (r0 : Env) : List Nat → Env → Env
  | [], r => r
  | i :: is, r => match r0[i]? with
    | some o => (backE r0 is r).set i o
    | none => backE r0 is r
def stillE (r : Env) : List Nat → Bool
  | [] => true
  | i :: is => (match r[i]? with
    | some (some (.fr _)) => true
    | some none => true
    | _ => false) && stillE r is
def hideE : Option (Nat × T) → Env → Env
  | some (i, _), r => r.set i none
  | none, r => r
def showE : Option (Nat × T) → Env → Env
  | some (i, t), r => r.set i (some t)
  | none, r => r
def seqD : D → Option (List D)
  | .scr ns => some (ns.map .int)
  | .lst ds => some ds
  | .tup ds => some ds
  | .str z => some (z.cps.toList.map fun c => .str ⟨#[c]⟩)
  | _ => none
def freeE : Option (Nat × T) → List Nat → Bool
  | some (i, _), as => !as.contains i
  | none, _ => true
def rngD : List D → Option (List D)
  | [.int n] => if -4611686018427387904 ≤ n ∧ n < 4611686018427387904 then some ((List.range n.toNat).map fun (i : Nat) => .int i) else none
  | [.int a, .int b] => if -4611686018427387904 ≤ a ∧ a < 4611686018427387904 ∧ -4611686018427387904 ≤ b ∧ b < 4611686018427387904 then some ((List.range (b - a).toNat).map fun (i : Nat) => .int (a + i)) else none
  | _ => none
def enumD : Nat → List D → List D
  | _, [] => []
  | k, d :: ds => .tup [.int k, d] :: enumD (k + 1) ds
def zipD : List D → List D → List D
  | a :: as, b :: bs => .tup [a, b] :: zipD as bs
  | _, _ => []
def itmsD : List Str → List D → List D
  | k :: ks, d :: ds => .tup [.str k, d] :: itmsD ks ds
  | _, _ => []
def itemsD : List Key → List D → List D
  | k :: ks, d :: ds => .tup [(match k with | .inl i => .int i | .inr s => .str s), d] :: itemsD ks ds
  | _, _ => []
/-- a comprehension's turns -/
def compL (cf : Env → Option (Bool × Env)) (ef : Env → R) (tg : Tg) : List D → Env → List D → RL
  | [], r, acc => .ok acc r
  | d :: ds, r, acc => match tg.bind d r with
    | none => .stuck
    | some r => match cf r with
      | none => .stuck
      | some (false, r) => compL cf ef tg ds (wipeE tg.slots r) acc
      | some (true, r) => match ef r with
        | .stuck => .stuck
        | .ok x r => if acc.length < sizeLine then compL cf ef tg ds (wipeE tg.slots (useE false x r)) (acc ++ [x.toD]) else .stuck
def R.tru (r : R) : Option (Bool × Env) := match r with
  | .ok x e => match truD x.toD with
    | some b => some (b, lookE true x e)
    | none => none
  | .stuck => none
/-- what was changed is laid back -/
def putBack : Ar → List Bool → Env → Env → Env
  | .ci _ as, _ :: io, _ :: ts, r => putBack as io ts r
  | .cx i as, _ :: io, t :: ts, r => putBack as io ts (r.set i t)
  | .ct _ as, _ :: io, _ :: ts, r => putBack as io ts r
  | _, _, _, r => r

/-- a part of what a slot owns -/
def brw (i : Nat) : T → Val
  | .fr d => .v (.fr d)
  | t => .b i t
/-- an item of a tuple that a slot owns with its parts -/
def subO (q : R) (k : Nat) : Option R := match q with
  | .ok (.b i (.nt ts)) r => some (match ts[k]? with
    | some t => .ok (brw i t) r
    | none => .stuck)
  | _ => none
mutual
def ev : E → Env → R
  | .var i, r => match r[i]? with
    | some (some (.fr d)) => F d r
    | some (some t) => .ok (.b i t) r
    | _ => .stuck
  | .cst d, r => F d r
  | .neg a, r => (ev a r).use true fun d r => match d with
    | .int i => F (.int (-i)) r
    | _ => .stuck
  | .bin o a b, r => (ev a r).use b.pu fun x r => (ev b r).use true fun y r => ofT (binD o x y) r
  | .cmp o a b, r => (ev a r).look b.pu fun x r => (ev b r).look true fun y r => ofD ((cmpD o x y).map .bl) r
  | .chain o u a b c, r => (ev a r).look b.pu fun x r => (ev b r).look c.pu fun y r => match cmpD o x y with
    | some true => (ev c r).look true fun z r => ofD ((cmpD u y z).map .bl) r
    | some false => F (.bl false) r
    | none => .stuck
  | .and a b, r => (ev a r).look true fun x r => match x with
    | .bl true => ev b r
    | .bl false => F (.bl false) r
    | _ => .stuck
  | .or a b, r => (ev a r).look true fun x r => match x with
    | .bl false => ev b r
    | .bl true => F (.bl true) r
    | _ => .stuck
  | .not a, r => match (ev a r).tru with
    | some (b, r) => F (.bl (!b)) r
    | none => .stuck
  | .ite c a b, r => match (ev c r).tru with
    | some (true, r) => ev a r
    | some (false, r) => ev b r
    | none => .stuck
  | .tupo as, r => match eva as r with
    | .ok ts r => if ts.length ≤ sizeLine then .ok (.v (.nt ts)) r else .stuck
    | .stuck => .stuck
  | .sub a k, r => match subO (ev a r) k with
    | some q => q
    | none => (ev a r).use true fun x r => ofD (idxD x (.int k)) r
  | .lend e, r => match ev e r with
    | .ok x _ => if e.pu && atomD x.toD then .ok (.v (.fr x.toD)) r else .stuck
    | .stuck => .stuck
  | .tup es, r => match evs es r with
    | .ok ds r => if ds.length ≤ sizeLine then F (.tup ds) r else .stuck
    | .stuck => .stuck
  | .lst es, r => match evs es r with
    | .ok ds r => if ds.length ≤ sizeLine then .ok (.v (.ow (.lst ds))) r else .stuck
    | .stuck => .stuck
  | .dct ks vs, r => match evs vs r with
    | .ok ds r => if ks.Nodup ∧ ks.length = ds.length ∧ ks ≠ [] ∧ ks.length ≤ 15 then .ok (.v (.ow (.dK ks ds))) r else .stuck
    | .stuck => .stuck
  | .dnew t, r => .ok (.v (.ow (if t then .dT [] [] else .dK [] []))) r
  | .idx a b, r => (ev a r).use b.pu fun x r => (ev b r).use true fun k r => ofD (idxD x k) r
  | .sli a lo hi, r => (ev a r).use (lo.pu && hi.pu) fun x r => match evo lo r with
    | some (l, r) => match evo hi r with
      | some (h, r) => ofT (sliD x l h) r
      | none => .stuck
    | none => .stuck
  | .fld a f, r => (ev a r).use true fun x r => ofD (fldD f x) r
  | .isi a t, r => (ev a r).look true fun d r => ofD ((isD t d).map .bl) r
  | .bi f es, r => match evu es r with
    | .ok ds r => ofT (biD f ds) r
    | .stuck => .stuck
  | .mt m a es, r => (ev a r).use es.pu fun x r => match evu es r with
    | .ok ds r => ofT (mtD m x ds) r
    | .stuck => .stuck
  | .call f as, r => match eva as r with
    | .ok ts r => match f.run ts with
      | some (t, rp) => .ok (.v t) (putBack as f.io rp r)
      | none => .stuck
    | .stuck => .stuck
  | .new c f as, r => match eva as r with
    | .ok ts r => match f.run (.ow (.obj c []) :: ts) with
      | some (.fr .non, some t :: rp) => .ok (.v t) (putBack as f.io.tail rp r)
      | _ => .stuck
    | .stuck => .stuck
  | .meth ms as, r => match eva as r with
    | .ok (t :: ts) r => match t.toD with
      | .obj c _ => match ms c with
        | some f => match f.run (t :: ts) with
          | some (u, rp) => .ok (.v u) (putBack as f.io rp r)
          | none => .stuck
        | none => .stuck
      | _ => .stuck
    | _ => .stuck
  | .comp e tg it cd, r => match evi it r with
    | .ok ds hid r0 => if stillE (hideE hid r0) tg.slots then
        match compL (fun r => evc cd r) (fun r => ev e r) tg ds (wipeE tg.slots (hideE hid r0)) [] with
        | .ok ds r => .ok (.v (.ow (.lst ds))) (showE hid (backE (hideE hid r0) tg.slots r))
        | .stuck => .stuck
      else .stuck
    | .stuck => .stuck
/-- displays, arguments: each stands still -/
def evs : Es → Env → RL
  | .nil, r => .ok [] r
  | .cons e es, r => match ev e r with
    | .ok x r => match evs es (useE false x r) with
      | .ok ds r => .ok (x.toD :: ds) r
      | .stuck => .stuck
    | .stuck => .stuck
/-- arguments of what is built in -/
def evu : Es → Env → RL
  | .nil, r => .ok [] r
  | .cons e es, r => match ev e r with
    | .ok x r => match evu es (useE es.pu x r) with
      | .ok ds r => .ok (x.toD :: ds) r
      | .stuck => .stuck
    | .stuck => .stuck
def evo : Oe → Env → Option (Option Int × Env)
  | .no, r => some (none, r)
  | .so e, r => match ev e r with
    | .ok x r => match x.toD with
      | .int i => some (some i, lookE true x r)
      | _ => none
    | .stuck => none
def evc : Oe → Env → Option (Bool × Env)
  | .no, r => some (true, r)
  | .so e, r => (ev e r).tru
def evi : It → Env → RI
  | .lst e, r => match ev e r with
    | .ok (.v t) r => match seqD t.toD with
      | some ds => .ok ds none r
      | none => .stuck
    | .ok (.b i (.ow (.lst ds))) r => match r[i]? with
      | some (some (.ow (.lst _))) => .ok ds (some (i, .ow (.lst ds))) r
      | _ => .stuck
    | _ => .stuck
  | .lstf e, r => match ev e r with
    | .ok x r => match seqD x.toD with
      | some ds => .ok ds none (useE false x r)
      | none => .stuck
    | .stuck => .stuck
  | .rng es, r => match evu es r with
    | .ok ds r => match rngD ds with
      | some ds => .ok ds none r
      | none => .stuck
    | .stuck => .stuck
  | .enu e, r => match ev e r with
    | .ok x r => match x.toD with
      | .lst ds => .ok (enumD 0 ds) none (useE false x r)
      | _ => .stuck
    | .stuck => .stuck
  | .zip a b, r => match ev a r with
    | .ok x r => match ev b (useE false x r) with
      | .ok y r => match x.toD, y.toD with
        | .lst ds, .lst es => .ok (zipD ds es) none (useE false y r)
        | .str z, .tup es => .ok (zipD (z.cps.toList.map fun c => .str ⟨#[c]⟩) es) none (useE false y r)
        | _, _ => .stuck
      | .stuck => .stuck
    | .stuck => .stuck
  | .itm e, r => match ev e r with
    | .ok x r => match x.toD with
      | .tab ks ds _ => .ok (itmsD ks ds) none (useE false x r)
      | _ => .stuck
    | .stuck => .stuck
  | .val _, _ => .stuck
def eva : Ar → Env → RA
  | .nil, r => .ok [] r
  | .ci e as, r => match ev e r with
    | .ok x r => match eva as (useE false x r) with
      | .ok ts r => .ok (.fr x.toD :: ts) r
      | .stuck => .stuck
    | .stuck => .stuck
  | .cx i as, r => match r[i]? with
    | some (some t) => match eva as (r.set i none) with
      | .ok ts r => .ok (t :: ts) r
      | .stuck => .stuck
    | _ => .stuck
  | .ct e as, r => match ev e r with
    | .ok x r => match eva as (useE false x r) with
      | .ok ts r => .ok ((match x with
        | .v t => t
        | .b _ t => .fr t.toD) :: ts) r
      | .stuck => .stuck
    | .stuck => .stuck
end

/-! ### statements -/
inductive S where
  | expr (e : E) | asg (tg : Tg) (e : E) | aug (i : Nat) (o : Bop) (e : E)
  | ife (c : E) (a b : S) | for (tg : Tg) (it : It) (b : S) | whl (n : Nat) (c : E) (b : S)
  | ret (e : E) | retv (i : Nat) | retN | pass | brk | cont | seq (a b : S)
  | clrP (i k : Nat) | appT (e : E) (k : Nat) (d : D) | appP (i k : Nat) (e : E) | tryE (b els : S) | raise
  | app (i : Nat) (e : E) | seti (i : Nat) (k e : E) | setf (i : Nat) (f : Nat → Option Nat) (e : E) | updd (i : Nat) (e : E)
/-- the slots that a statement may store to -/
def S.asgs : S → List Nat
  | .asg tg _ => tg.slots | .aug i _ _ => [i]
  | .tryE a b => a.asgs ++ b.asgs
  | .ife _ a b => a.asgs ++ b.asgs | .for tg _ b => tg.slots ++ b.asgs | .whl _ _ b => b.asgs | .seq a b => a.asgs ++ b.asgs
  | _ => []
def O.seq (o : O) (k : Env → O) : O := match o with
  | .nx r => k r
  | o => o
def forL (bf : Env → O) (tg : Tg) : List D → Env → O
  | [], r => .nx r
  | d :: ds, r => match tg.bind d r with
    | none => .stuck
    | some r => match bf r with
      | .nx r => forL bf tg ds r
      | .ct r => forL bf tg ds r
      | .bk r => .nx r
      | .rt t r => .rt t r
      | .stuck => .stuck
def whlL (cf : Env → Option (Bool × Env)) (bf : Env → O) : Nat → Env → O
  | 0, _ => .stuck
  | n + 1, r => match cf r with
    | none => .stuck
    | some (false, r) => .nx r
    | some (true, r) => match bf r with
      | .nx r => whlL cf bf n r
      | .ct r => whlL cf bf n r
      | .bk r => .nx r
      | .rt t r => .rt t r
      | .stuck => .stuck
/-- assignment: a name takes what is its own, else it stands still -/
def asgE (tg : Tg) (x : Val) (r : Env) : Option Env := match tg, x with
  | .name i, .v t => match r[i]? with
    | some _ => some (r.set i (some t))
    | none => none
  | tg, x => tg.bind x.toD (useE false x r)
def setD : D → D → D → Option D
  | .lst ds, .int j, d => match ixI ds.length j with
    | some k => some (.lst (ds.set k d))
    | none => none
  | _, _, _ => none
def evS : S → Env → O
  | .expr e, r => match ev e r with
    | .ok _ r => .nx r
    | .stuck => .stuck
  | .asg tg e, r => match ev e r with
    | .ok x r => match asgE tg x r with
      | some r => .nx r
      | none => .stuck
    | .stuck => .stuck
  | .aug i o e, r => match r[i]? with
    | some (some (.fr (.int a))) => match ev e r with
      | .ok x r => match o, x.toD with
        | .add, .int b => .nx ((useE false x r).set i (some (.fr (.int (a + b)))))
        | .sub, .int b => .nx ((useE false x r).set i (some (.fr (.int (a - b)))))
        | _, _ => .stuck
      | .stuck => .stuck
    | _ => .stuck
  | .ife c a b, r => match (ev c r).tru with
    | some (true, r) => evS a r
    | some (false, r) => evS b r
    | none => .stuck
  | .for tg it b, r => match evi it r with
    | .ok ds hid r => match forL (fun r => evS b r) tg ds (hideE hid r) with
      | .nx r => if freeE hid (tg.slots ++ b.asgs) then .nx (showE hid r) else .stuck
      | o => o
    | .stuck => .stuck
  | .whl n c b, r => whlL (fun r => (ev c r).tru) (fun r => evS b r) n r
  | .ret e, r => match ev e r with
    | .ok (.v t) r => .rt t r
    | .ok (.b i t) r => .rt (.fr t.toD) (frz i r)
    | .stuck => .stuck
  | .retv i, r => match r[i]? with
    | some (some t) => .rt t (r.set i none)
    | _ => .stuck
  | .retN, r => .rt (.fr .non) r
  | .pass, r => .nx r
  | .raise, _ => .stuck
  | .tryE b els, r => (evS b r).seq fun r => evS els r
  | .clrP i k, r => match r[i]? with
    | some (some (.nt ts)) => match ts[k]? with
      | some (.ow (.lst _)) => .nx (r.set i (some (.nt (ts.set k (.ow (.lst []))))))
      | _ => .stuck
    | _ => .stuck
  | .appT e k d, r => match ev e r with
    | .ok (.v (.nt ts)) r1 => match ts[k]? with
      | some (.ow (.lst ds)) => if ds.length < sizeLine then .nx r1 else .stuck
      | _ => .stuck
    | _ => .stuck
  | .appP i k e, r => if e.pu = true then match r[i]? with
    | some (some (.nt ts)) => match ts[k]? with
      | some (.ow (.lst _)) => match ev e r with
        | .ok x r => match (useE false x r)[i]? with
          | some (some (.nt ts)) => match ts[k]? with
            | some (.ow (.lst ds)) => if ds.length < sizeLine then .nx ((useE false x r).set i (some (.nt (ts.set k (.ow (.lst (ds ++ [x.toD]))))))) else .stuck
            | _ => .stuck
          | _ => .stuck
        | .stuck => .stuck
      | _ => .stuck
    | _ => .stuck
    else .stuck
  | .brk, r => .bk r
  | .cont, r => .ct r
  | .seq a b, r => (evS a r).seq fun r => evS b r
  | .app i e, r => match r[i]? with
    | some (some (.ow (.lst _))) => match ev e r with
      | .ok x r => match (useE false x r)[i]? with
        | some (some (.ow (.lst ds))) => if ds.length < sizeLine then .nx ((useE false x r).set i (some (.ow (.lst (ds ++ [x.toD]))))) else .stuck
        | _ => .stuck
      | .stuck => .stuck
    | _ => .stuck
  | .seti i k e, r => match r[i]? with
    | some (some _) => match ev e r with
      | .ok x r => match ev k (useE false x r) with
        | .ok y r => match (useE false y r)[i]? with
          | some (some (.ow d)) => match setD d y.toD x.toD with
            | some d => .nx ((useE false y r).set i (some (.ow d)))
            | none => .stuck
          | _ => .stuck
        | .stuck => .stuck
      | .stuck => .stuck
    | _ => .stuck
  | .setf i f e, r => match r[i]? with
    | some (some _) => match ev e r with
      | .ok x r => match (useE false x r)[i]? with
        | some (some (.ow (.obj c ds))) => match f c with
          | some k => if k < ds.length then .nx ((useE false x r).set i (some (.ow (.obj c (ds.set k x.toD)))))
              else if k = ds.length then .nx ((useE false x r).set i (some (.ow (.obj c (ds ++ [x.toD]))))) else .stuck
          | none => .stuck
        | _ => .stuck
      | .stuck => .stuck
    | _ => .stuck
  | .updd i e, r => match r[i]? with
    | some (some (.ow (.dK _ _))) => match ev e r with
      | .ok x r => match (useE false x r)[i]?, x.toD with
        | some (some (.ow (.dK ks ds))), .dK ls es => if ks.length + ls.length ≤ sizeLine ∧ (ks ++ ls).Nodup ∧ ks.length = ds.length then .nx ((useE false x r).set i (some (.ow (.dK (ks ++ ls) (ds ++ es))))) else .stuck
        | _, _ => .stuck
      | .stuck => .stuck
    | _ => .stuck
/-- a def's own: n slots in all, the parameters' first -/
def mkFn (n : Nat) (io : List Bool) (b : S) : Fn where
  io := io
  run := fun ts => if ts.length = io.length then
    match evS b (ts.map some ++ List.replicate (n - io.length) none) with
    | .nx r => some (.fr .non, r.take io.length)
    | .rt t r => some (t, r.take io.length)
    | _ => none
    else none
end FJ

/-! From the text to the small language. -/
namespace FJ
open PySem L2

/-- what a module's name stands for -/
inductive GI where
  | fn (f : Fn) | con (d : D) | blt | cls (k : Nat) (f : Option Fn) (s : Option (Nat × List Nat))
/-- where a text stands: its names by slot, its scope, which names it may store to, the module's names, the classes under each -/
structure Cc where
  N : List Str
  sc : Scope
  cellOk : Str → Bool
  g : Str → Option GI
  np : Nat
  cp : List (Nat × Nat)
  tds : List Str
  fl : Str → Nat → Option Nat
  ms : Str → Option (List Bool × (Nat → Option Fn))
  lp : List (Nat × Nat)

def slotOf (x : Str) : List Str → Option Nat
  | [] => none
  | y :: r => if y = x then some 0 else (slotOf x r).map (· + 1)
def visB (sc : Scope) (x : Str) : Bool := match sc.names.lookup x with
  | some .local => true | some .cell => true | some .free => true | _ => false
def gloB (sc : Scope) (x : Str) : Bool := match sc.names.lookup x with
  | some .globalImplicit => true | _ => false
def locB (c : Cc) (x : Str) : Bool := match c.sc.names.lookup x with
  | some .local => true | some .cell => c.cellOk x | _ => false
def dbg (x : Str) : Bool := x == ("__debug__" : Str)
def gOf (c : Cc) (x : Str) : Option GI := if gloB c.sc x && !dbg x && decide (x ≠ "__name__") then c.g x else none
def bltB (c : Cc) (x : Str) : Bool := match gOf c x with | some .blt => true | _ => false
def binOp : Operator → Option Bop
  | .Add => some .add | .Sub => some .sub | .Mult => some .mul | .FloorDiv => some .fdiv | .Mod => some .mod | .Pow => some .pow
  | _ => none
def cmpOp : CmpOp → Cop
  | .Eq => .eq | .NotEq => .ne | .Lt => .lt | .LtE => .le | .Gt => .gt | .GtE => .ge | .Is => .isn | .IsNot => .isnt | .In => .inn | .NotIn => .nin
def notStar : Expr → Bool
  | .Starred .. => false | _ => true
def noStars (es : List Expr) : Bool := es.all notStar
def isSlice : Expr → Bool
  | .Slice .. => true | _ => false
def isComp : Expr → Bool
  | .ListComp .. => true | .SetComp .. => true | .DictComp .. => true | _ => false
def isSet : Expr → Bool
  | .Set .. => true | _ => false
def isTup : Expr → Bool
  | .Tuple .. => true | _ => false
def isTest : Expr → Bool
  | .UnaryOp .Not _ _ => true | .BoolOp .. => true | .IfExp .. => true | .Compare .. => true | _ => false
def baseOk : Expr → Bool
  | .Call (.Name id _) [] [] _ => decide (id ≠ "super") | _ => true
def biOf (x : Str) : Option BI :=
  if x = "len" then some .len else if x = "all" then some .all else if x = "any" then some .any else if x = "sum" then some .sum
  else if x = "divmod" then some .divmod else if x = "max" then some .max else if x = "min" then some .min else none
def btOf (x : Str) : Option BI :=
  if x = "list" then some .list else if x = "tuple" then some .tuple else if x = "int" then some .int else none
def tyOf (c : Cc) : Expr → Option Ty
  | .Name x _ => match gOf c x with
    | some .blt => if x = "int" then some .int else if x = "str" then some .str else if x = "bool" then some .bool else if x = "list" then some .list
        else if x = "tuple" then some .tuple else if x = "dict" then some .dict else none
    | some (.cls _ _ (some (n, s))) => some (.cls n s)
    | _ => none
  | _ => none
def isPair : It → Bool
  | .enu _ => true | .zip _ _ => true | .itm _ => true | _ => false
def keyE : Option Expr → Option Key
  | some (.Constant (.str s) _ _) => some (.inr s)
  | some (.Constant (.int i) _ _) => some (.inl i)
  | _ => none
def keysE : List (Option Expr) → Option (List Key)
  | [] => some []
  | e :: r => match keyE e, keysE r with
    | some k, some ks => some (k :: ks)
    | _, _ => none
def posOf : Expr → Nat × Nat
  | .Name _ p => (p.line, p.col)
  | .Tuple _ _ p => (p.line, p.col)
  | .Subscript _ _ p => (p.line, p.col)
  | _ => (0, 0)
def lpB (c : Cc) : Expr → Bool
  | .Compare _ _ _ p => c.lp.contains (p.line, p.col)
  | .BoolOp _ _ p => c.lp.contains (p.line, p.col)
  | .UnaryOp _ _ p => c.lp.contains (p.line, p.col)
  | _ => false
def cstOf : Expr → Option Nat
  | .Constant (.int (.ofNat k)) _ _ => some k
  | _ => none
def cpB (c : Cc) (e : Expr) : Bool := c.cp.contains (posOf e)
/-- a new object is at hand: a name may take it as its own -/
def scopeOfComp : Expr → Option Scope
  | .ListComp _ _ s _ => some s | _ => none
def inner (c : Cc) (scope : Scope) : Cc := { c with sc := relS scope c.sc, cellOk := fun x => decide (scope.names.lookup x = some .cell) }
def namesOf : Tg → List Str → List (Str × Nat)
  | t, N => t.slots.filterMap fun i => (N[i]?).map fun x => (x, i)

mutual
def ce : Nat → Cc → Expr → Option E
  | 0, _, _ => none
  | n + 1, c, e => match e with
    | .Name x _ => if dbg x || decide (x = "__classdict__") then none else if visB c.sc x then (slotOf x c.N).map .var else match gOf c x with
      | some (.con d) => some (.cst d)
      | _ => none
    | .Constant (.int i) _ _ => some (.cst (.int i))
    | .Constant (.bool b) _ _ => some (.cst (.bl b))
    | .Constant (.str s) _ _ => some (.cst (.str s))
    | .Constant .none _ _ => some (.cst .non)
    | .UnaryOp .USub a _ => (ce n c a).map .neg
    | .UnaryOp .Not a _ => (ce n c a).map .not
    | .BinOp a o b _ => match binOp o, ce n c a, ce n c b with
      | some o, some a, some b => some (.bin o a b)
      | _, _, _ => none
    | .Compare a [o] [b] _ => if behindInMarks o b then none else match ce n c a, ce n c b with
      | some a, some b => some (.cmp (cmpOp o) a b)
      | _, _ => none
    | .Compare a [o, u] [b, d] _ => if isSet b || isSet d then none else match ce n c a, ce n c b, ce n c d with
      | some a, some b, some d => some (.chain (cmpOp o) (cmpOp u) a b d)
      | _, _, _ => none
    | .BoolOp .And (a :: r) _ => cand n c a r
    | .BoolOp .Or (a :: r) _ => cor n c a r
    | .IfExp t a b _ => match ce n c t, ce n c a, ce n c b with
      | some t, some a, some b => some (.ite t a b)
      | _, _, _ => none
    | .Tuple es k p => if cpB c (.Tuple es k p) && noStars es then (car n c (es.map fun _ => true) es).map .tupo else (ces n c es).map .tup
    | .List es _ => (ces n c es).map .lst
    | .Dict ks vs _ => match ks with
      | [] => (match vs with
        | [] => some (.dnew false)
        | _ :: _ => none)
      | _ :: _ => match keysE ks, ces n c vs with
        | some k, some ws => if ks.length = vs.length ∧ ks.length ≤ 15 then some (.dct k ws) else none
        | _, _ => none
    | .Attribute a m _ => if baseOk a then (ce n c a).map fun a => .fld a (c.fl m) else none
    | .Subscript a (.Slice lo hi none _) _ => match ce n c a, co n c lo, co n c hi with
      | some a, some lo, some hi => some (.sli a lo hi)
      | _, _, _ => none
    | .Subscript a b p => if isSlice b then none else match ce n c a, ce n c b with
      | some ea, some eb => (match cstOf b with
        | some k => if cpB c (.Subscript a b p) then some (.sub ea k) else some (.idx ea eb)
        | none => some (.idx ea eb))
      | _, _ => none
    | .Call (.Name x _) es [] _ => if !noStars es then none else match gOf c x with
      | some (.fn f) => if f.io.length = es.length then (car n c f.io es).map (.call f) else none
      | some (.cls k (some f) _) => (match f.io with
        | true :: io => if io.length = es.length then (car n c io es).map (.new k f) else none
        | _ => none)
      | some .blt => if decide (x = "isinstance") then (match es with
          | [a, t] => match ce n c a, tyOf c t with
            | some a, some t => some (.isi a t)
            | _, _ => none
          | _ => none)
        else if decide (x = "sum") && decide (es.length = 2) then (ces n c es).map (.bi .sum2)
        else match biOf x, es with
          | some b, _ :: _ => (ces n c es).map (.bi b)
          | _, _ => match btOf x, es with
            | some b, _ :: _ => (ces n c es).map (.bi b)
            | _, _ => none
      | _ => none
    | .Call (.Attribute a m ap) es [] cp => if baseOk a && (ap.endLine == cp.line) then (
        if decide (m = "upper") then (match es with
          | [] => (ce n c a).map fun a => .mt .upper a .nil
          | _ :: _ => none)
        else if decide (m = "get") && (decide (es.length = 2) && noStars es) then (match ce n c a, ces n c es with
          | some a, some es => some (.mt .get a es)
          | _, _ => none)
        else (match c.ms m with
          | some (b :: io, ms) => if noStars es && decide (es.length < 29) then (match crc n c b a, car n c io es with
            | some f, some as => some (.meth ms (f as))
            | _, _ => none) else none
          | _ => none)) else none
    | .ListComp elt [⟨tg0, iter, ifs, as⟩] scope _ => if isSet iter || decide (as ≠ 0) then none else match cit n c iter, ctg n (inner c scope) tg0 with
      | some it, some tg => if isPair it && !isTup tg0 then none else if blkC c.N c.sc scope (namesOf tg c.N) && decide ((namesOf tg c.N).map (·.2) = tg.slots) then (match ce n (inner c scope) elt, ifs with
          | some e, [] => some (.comp e tg it .no)
          | some e, [i] => (ce n (inner c scope) i).map fun i => .comp e tg it (.so i)
          | _, _ => none) else none
      | _, _ => none
    | _ => none
def cand : Nat → Cc → Expr → List Expr → Option E
  | 0, _, _, _ => none
  | n + 1, c, a, [] => ce n c a
  | n + 1, c, a, b :: r => match ce n c a, cand n c b r with
    | some a, some b => some (.and a b)
    | _, _ => none
def cor : Nat → Cc → Expr → List Expr → Option E
  | 0, _, _, _ => none
  | n + 1, c, a, [] => ce n c a
  | n + 1, c, a, b :: r => match ce n c a, cor n c b r with
    | some a, some b => some (.or a b)
    | _, _ => none
def ces : Nat → Cc → List Expr → Option Es
  | 0, _, _ => none
  | _ + 1, _, [] => some .nil
  | n + 1, c, e :: es => if notStar e then (match ce n c e, ces n c es with
    | some e, some es => some (.cons e es)
    | _, _ => none) else none
def co : Nat → Cc → Option Expr → Option Oe
  | 0, _, _ => none
  | _ + 1, _, none => some .no
  | n + 1, c, some e => (ce n c e).map .so
def car : Nat → Cc → List Bool → List Expr → Option Ar
  | 0, _, _, _ => none
  | _ + 1, _, [], [] => some .nil
  | n + 1, c, false :: io, e :: es => match ce n c e, car n c io es with
    | some e, some as => some (.ci e as)
    | _, _ => none
  | n + 1, c, true :: io, e :: es => match crc n c true e, car n c io es with
    | some f, some as => some (f as)
    | _, _ => none
  | _ + 1, _, _, _ => none
/-- how an argument is handed on -/
def crc : Nat → Cc → Bool → Expr → Option (Ar → Ar)
  | 0, _, _, _ => none
  | n + 1, c, false, e => (ce n c e).map .ci
  | n + 1, c, true, e => if cpB c e then (ce n c e).map .ct else match e with
    | .Name x _ => if dbg x || decide (x = "__classdict__") || !visB c.sc x then (ce n c e).map .ct else (slotOf x c.N).map .cx
    | e => (ce n c e).map .ct
def cit : Nat → Cc → Expr → Option It
  | 0, _, _ => none
  | n + 1, c, e => match e with
    | .Call (.Name x _) es [] _ => if bltB c x && noStars es then (
        if decide (x = "range") then (match es with
          | [_] => (ces n c es).map .rng
          | [_, _] => (ces n c es).map .rng
          | _ => none)
        else if decide (x = "enumerate") then (match es with
          | [a] => (ce n c a).map .enu
          | _ => none)
        else if decide (x = "zip") then (match es with
          | [a, b] => match ce n c a, ce n c b with
            | some a, some b => some (.zip a b)
            | _, _ => none
          | _ => none)
        else (ce n c e).map .lst)
      else (ce n c e).map .lst
    | .Call (.Attribute a m ap) es [] cp => if decide (m = "items") && (es.isEmpty && (baseOk a && (ap.endLine == cp.line))) then (ce n c a).map .itm else (ce n c e).map .lst
    | _ => if cpB c e then (ce n c e).map .lstf else (ce n c e).map .lst
def ctg : Nat → Cc → Expr → Option Tg
  | 0, _, _ => none
  | n + 1, c, e => match e with
    | .Name x _ => if locB c x then (slotOf x c.N).map .name else none
    | .Tuple es _ _ => (ctgs n c es).map .tup
    | _ => none
def ctgs : Nat → Cc → List Expr → Option (List Tg)
  | 0, _, _ => none
  | _ + 1, _, [] => some []
  | n + 1, c, e :: es => if notStar e then (match ctg n c e, ctgs n c es with
    | some e, some es => some (e :: es)
    | _, _ => none) else none
end

/-- an expression of its own -/
def capp (c : Cc) : Expr → Option S
  | .Call (.Attribute (.Name x _) m ap) [e] [] cp => if (decide (m = "append") || decide (m = "update")) && (visB c.sc x && (!dbg x && (decide (x ≠ "__classdict__") && (notStar e && (ap.endLine == cp.line))))) then (match slotOf x c.N, ce 1000 c e with
      | some i, some e => if m = "append" then some (.app i e) else some (.updd i e)
      | _, _ => none) else none
  | .Call (.Attribute (.Subscript (.Name x _) (.Constant (.int (.ofNat k)) _ _) _) m ap) [e] [] cp => if decide (m = "append") && (visB c.sc x && (!dbg x && (decide (x ≠ "__classdict__") && (notStar e && (ap.endLine == cp.line))))) then (match slotOf x c.N, ce 1000 c e with
      | some i, some e => some (.appP i k e)
      | _, _ => none) else none
  | .Call (.Attribute (.Subscript (.Name x _) (.Constant (.int (.ofNat k)) _ _) _) m ap) [] [] cp => if decide (m = "clear") && (visB c.sc x && (!dbg x && (decide (x ≠ "__classdict__") && (ap.endLine == cp.line)))) then (slotOf x c.N).map fun i => .clrP i k else none
  | .Call (.Attribute (.Subscript (.Call f fa fk fp) (.Constant (.int (.ofNat k)) _ _) _) m ap) [.Constant (.int (.ofNat j)) _ _] [] cp => if decide (m = "append") && (ap.endLine == cp.line) then (ce 1000 c (.Call f fa fk fp)).map fun e => .appT e k (.int (.ofNat j)) else none
  | _ => none
def cxp (c : Cc) (e : Expr) : Option S := match capp c e with
  | some s => some s
  | none => if isComp e then none else (ce 1000 c e).map .expr
/-- o.f = e, d.update(e) -/
def cfl (c : Cc) : Expr → Expr → Option S
  | .Attribute (.Name x _) m _, e => if visB c.sc x && (!dbg x && (decide (x ≠ "__classdict__") && !isComp e)) then (match slotOf x c.N, ce 1000 c e with
      | some i, some e => some (.setf i (c.fl m) e)
      | _, _ => none) else none
  | _, _ => none
/-- assignments -/
def cnew (c : Cc) (x : Str) : Expr → Option E
  | .Dict [] [] _ => some (.dnew (c.tds.contains x))
  | e => ce 1000 c e
def cpar (c : Cc) : List Expr → Expr → Option S
  | [.Name x p, .Name y q], .Tuple [a, b] _ _ => if (decide (c.sc.names.lookup x = some .local) && (decide (c.sc.names.lookup y = some .local) && ((p.line == q.line) && (decide (x ≠ y) && (notStar a && (notStar b && (!([a, b].all (foldedForSure 8)) && !([a, b].all (constantsAlone 8))))))))) then (match slotOf x c.N, slotOf y c.N, ce 1000 c a, ce 1000 c b with
      | some i, some j, some a, some b => if i = j then none else some (.asg (.tup [.name i, .name j]) (.tup (.cons a (.cons b .nil))))
      | _, _, _, _ => none) else none
  | _, _ => none
def cas (c : Cc) : Expr → Expr → Option S
  | .Name x _, e => if locB c x then (match slotOf x c.N, cnew c x e with
      | some i, some e => some (.asg (.name i) e)
      | _, _ => none) else none
  | .Tuple ts k p, e => if isTup e then cpar c ts e else if isComp e then none else (match ctg 1000 c (.Tuple ts k p), ce 1000 c e with
      | some tg, some e => some (.asg tg e)
      | _, _ => none)
  | .Subscript (.Name x _) k _, e => if visB c.sc x && (!dbg x && (decide (x ≠ "__classdict__") && (!isSlice k && !isComp e))) then (match slotOf x c.N, ce 1000 c k, ce 1000 c e with
      | some i, some k, some e => some (.seti i k e)
      | _, _, _ => none) else none
  | .Attribute o m p, e => cfl c (.Attribute o m p) e
  | _, _ => none
def caug (c : Cc) : Expr → Operator → Expr → Option S
  | .Name x _, o, e => if locB c x then (match slotOf x c.N, ce 1000 c e with
      | some i, some e => (match o with
        | .Add => some (.aug i .add e)
        | .Sub => some (.aug i .sub e)
        | _ => none)
      | _, _ => none) else none
  | _, _, _ => none
def cret (c : Cc) (e : Expr) : Option S := match e with
  | .Name x _ => if dbg x || decide (x = "__classdict__") then none else if visB c.sc x then (slotOf x c.N).map fun i => if c.np ≤ i then .retv i else .ret (.var i) else (ce 1000 c e).map .ret
  | e => (ce 1000 c e).map .ret
/-- a condition: what is read is lent where it says so -/
def cnd (c : Cc) (t : Expr) : Option E := if lpB c t then (ce 1000 c t).map .lend else ce 1000 c t
mutual
def cs : Nat → Cc → Stmt → Option S
  | 0, _, _ => none
  | n + 1, c, s => match s with
    | .Expr e _ => cxp c e
    | .Assign [tg] e _ => cas c tg e
    | .AugAssign tg o e _ => caug c tg o e
    | .If t a b _ => match cnd c t, css n c a, css n c b with
      | some t, some a, some b => some (.ife t a b)
      | _, _, _ => none
    | .For tg0 iter b [] _ => if isSet iter then none else match ctg 1000 c tg0, cit 1000 c iter, css n c b with
      | some tg, some it, some b => if isPair it && !isTup tg0 then none else some (.for tg it b)
      | _, _, _ => none
    | .While t b [] _ => match ce 1000 c t, css n c b with
      | some t, some b => some (.whl 4194304 t b)
      | _, _ => none
    | .Return (some e) _ => cret c e
    | .Return none _ => some .retN
    | .Raise _ _ _ => some .raise
    | .Try b (_ :: _) els [] _ => match css n c b, css n c els with
      | some b, some els => some (.tryE b els)
      | _, _ => none
    | .Pass _ => some .pass
    | .Break _ => some .brk
    | .Continue _ => some .cont
    | _ => none
def css : Nat → Cc → List Stmt → Option S
  | 0, _, _ => none
  | _ + 1, _, [] => some .pass
  | n + 1, c, s :: r => match r with
    | [] => cs n c s
    | _ :: _ => match cs n c s, css n c r with
      | some a, some b => some (.seq a b)
      | _, _ => none
end
end FJ

/-! States, steps, what a value may be used for. -/
namespace FJ
open PySem L2

/-- slot i owns P i; G is the part of H that stands still -/
structure Sst (C : Ct) (G H : Hp) (P : Nat → Addr → Prop) (r : Env) (σ : St) : Prop where
  len : r.length = σ.length
  gh : Same G H
  sl : ∀ (i : Nat) (t : T), r[i]? = some (some t) → ∃ v, σ[i]? = some (some v) ∧ Own C G H t v (P i)
  pe : ∀ (i : Nat) (a : Addr), P i a → ∃ t, r[i]? = some (some t)
  dj : ∀ (i j : Nat) (a : Addr), P i a → P j a → i = j
/-- from one state to a later one -/
structure Stp (G H : Hp) (P : Nat → Addr → Prop) (G' H' : Hp) (P' : Nat → Addr → Prop) : Prop where
  gg : Same G G'
  kp : ∀ (a : Addr) (o : HO), H a = some o → (∀ i, ¬ P i a) → H' a = some o
  ld : ∀ (a : Addr), H' a = none → H a = none
  pp : ∀ (i : Nat) (a : Addr), P' i a → (∃ j, P j a) ∨ H a = none
  gn : ∀ (a : Addr), G a = none → G' a ≠ none → (∃ j, P j a) ∨ H a = none
theorem Stp.refl (G H : Hp) (P : Nat → Addr → Prop) : Stp G H P G H P := ⟨Same.refl G, fun _ _ h _ => h, fun _ h => h, fun i _ h => .inl ⟨i, h⟩, fun _ h n => absurd h n⟩
theorem Stp.trans {G H G1 H1 G2 H2 : Hp} {P P1 P2 : Nat → Addr → Prop} (a : Stp G H P G1 H1 P1) (b : Stp G1 H1 P1 G2 H2 P2) : Stp G H P G2 H2 P2 where
  gg := a.gg.trans b.gg
  kp := fun x o h n => b.kp x o (a.kp x o h n) fun i hi => (a.pp i x hi).elim (fun ⟨j, hj⟩ => n j hj) fun e => by rw [h] at e; cases e
  ld := fun x h => a.ld x (b.ld x h)
  pp := fun i x h => (b.pp i x h).elim (fun ⟨j, hj⟩ => a.pp j x hj) fun e => .inr (a.ld x e)
  gn := fun x h n => by
    by_cases h1 : G1 x = none
    · exact (b.gn x h1 n).elim (fun ⟨j, hj⟩ => a.pp j x hj) fun e => .inr (a.ld x e)
    · exact a.gn x h h1
/-- a value's own is laid to what stands still -/
noncomputable def gadd (G H : Hp) (A : Addr → Prop) : Hp := fun a => by
  classical exact if A a then H a else G a
section
variable {C : Ct} {G H G' H' : Hp} {P P' : Nat → Addr → Prop} {r r' : Env} {σ σ' : St} {A B : Addr → Prop} {x : Val} {v : V} {t : T} {d : D}
theorem gadd_in {a : Addr} (h : A a) : gadd G H A a = H a := by unfold gadd; rw [if_pos h]
theorem gadd_out {a : Addr} (h : ¬ A a) : gadd G H A a = G a := by unfold gadd; rw [if_neg h]
theorem Same.gadd (hn : ∀ a, A a → G a = none) : Same G (gadd G H A) := fun a o h => by
  by_cases ha : A a
  · rw [hn a ha] at h; cases h
  · rw [gadd_out ha]; exact h
theorem gadd_le (s : Same G H) : Same (FJ.gadd G H A) H := fun a o h => by
  by_cases ha : A a
  · rw [gadd_in ha] at h; exact h
  · rw [gadd_out ha] at h; exact s a o h
theorem Sst.dom (st : Sst C G H P r σ) {i : Nat} {a : Addr} (h : P i a) : G a = none ∧ H a ≠ none := by
  obtain ⟨t, e⟩ := st.pe i a h
  obtain ⟨v, _, o⟩ := st.sl i t e
  exact Own.dom o h
/-- an owned value may be read as it is -/
theorem Own.rep (s : Same G H) (o : Own C G H t v A) : Rep C H t.toD v := Own.freeze s o fun _ _ _ h => h

def Res (C : Ct) (G H : Hp) (P : Nat → Addr → Prop) : Val → V → (Addr → Prop) → Prop
  | .v t, v, A => Own C G H t v A ∧ ∀ i a, A a → ¬ P i a
  | .b i t, v, A => (∀ a, ¬ A a) ∧ ∃ B, Own C G H t v B ∧ ∀ a, B a → P i a
theorem Res.fr (h : Rep C G d v) : Res C G H P (.v (.fr d)) v (fun _ => False) := ⟨.fr h fun _ z => z, fun _ _ z => z.elim⟩
/-- laying still a temporary -/
theorem Sst.lay (st : Sst C G H P r σ) (ha : ∀ a, A a → G a = none) (hn : ∀ i a, A a → ¬ P i a) : Sst C (gadd G H A) H P r σ where
  len := st.len
  gh := gadd_le st.gh
  sl := fun i t e => by
    obtain ⟨v, h1, h2⟩ := st.sl i t e
    refine ⟨v, h1, Own.mono (Same.gadd ha) h2 (fun a h => ?_) fun _ _ _ h => h⟩
    rw [gadd_out fun z => hn i a z h]
    exact (Own.dom h2 h).1
  pe := st.pe
  dj := st.dj
theorem Stp.lay (hf : ∀ a, A a → G a = none) : ∀ (hA : ∀ a, A a → (∃ j, P j a) ∨ H a = none), Stp G H P (gadd G H A) H P := fun hA =>
  ⟨Same.gadd hf, fun _ _ h _ => h, fun _ h => h, fun i _ h => .inl ⟨i, h⟩, fun a h n => by
    by_cases ha : A a
    · exact hA a ha
    · rw [gadd_out ha] at n; exact absurd h n⟩
/-- two steps, the second by a temporary of the first one's own -/
theorem Stp.layed {G0 H0 : Hp} {P0 : Nat → Addr → Prop} (s : Stp G0 H0 P0 G H P) (hf : ∀ a, A a → G a = none) (hA : ∀ a, A a → (∃ j, P0 j a) ∨ H0 a = none) : Stp G0 H0 P0 (gadd G H A) H P :=
  ⟨s.gg.trans (Same.gadd hf), s.kp, s.ld, s.pp, fun a h n => by
    by_cases ha : A a
    · exact hA a ha
    · rw [gadd_out ha] at n; exact s.gn a h n⟩
/-- a slot's own stands still from now on -/
def Pno (P : Nat → Addr → Prop) (i : Nat) : Nat → Addr → Prop := fun j a => j ≠ i ∧ P j a
theorem getSet {α : Type} {l : List α} {i j : Nat} {x y : α} (h : (l.set i x)[j]? = some y) : (i = j ∧ y = x ∧ i < l.length) ∨ (i ≠ j ∧ l[j]? = some y) := by
  by_cases e : i = j
  · subst e
    by_cases hl : i < l.length
    · rw [List.getElem?_set_self hl] at h
      exact .inl ⟨rfl, (Option.some.inj h).symm, hl⟩
    · rw [List.getElem?_eq_none (by simpa using hl)] at h; cases h
  · rw [List.getElem?_set_ne e] at h
    exact .inr ⟨e, h⟩
theorem ltOf {α : Type} {l : List α} {i : Nat} {x : α} (h : l[i]? = some x) : i < l.length := (List.getElem?_eq_some_iff.mp h).1
theorem Sst.frz (st : Sst C G H P r σ) (i : Nat) : Sst C (gadd G H (P i)) H (Pno P i) (FJ.frz i r) σ ∧ Stp G H P (gadd G H (P i)) H (Pno P i) := by
  have hG : ∀ a, P i a → G a = none := fun a h => (st.dom h).1
  refine ⟨?_, ⟨Same.gadd hG, fun _ _ h _ => h, fun _ h => h, fun j a h => .inl ⟨j, h.2⟩, fun a h n => ?_⟩⟩
  · have base : ∀ (j : Nat) (t : T), j ≠ i → r[j]? = some (some t) → ∃ v, σ[j]? = some (some v) ∧ Own C (gadd G H (P i)) H t v (Pno P i j) := fun j t hj e => by
      obtain ⟨v, h1, h2⟩ := st.sl j t e
      refine ⟨v, h1, ?_⟩
      have eP : Pno P i j = P j := by
        funext a
        exact propext ⟨fun h => h.2, fun h => ⟨hj, h⟩⟩
      rw [eP]
      refine Own.mono (Same.gadd hG) h2 (fun a h => ?_) fun _ _ _ h => h
      rw [gadd_out fun z => hj (st.dj _ _ _ h z)]
      exact (Own.dom h2 h).1
    cases e : r[i]? with
    | none =>
      have er : FJ.frz i r = r := by unfold FJ.frz; rw [e]
      rw [er]
      refine ⟨st.len, gadd_le st.gh, fun j t hj => base j t (fun z => by subst z; rw [e] at hj; cases hj) hj, fun j a h => st.pe j a h.2, fun j k a h1 h2 => st.dj j k a h1.2 h2.2⟩
    | some o =>
      cases o with
      | none =>
        have er : FJ.frz i r = r := by unfold FJ.frz; rw [e]
        rw [er]
        refine ⟨st.len, gadd_le st.gh, fun j t hj => base j t (fun z => by subst z; rw [e] at hj; cases hj) hj, fun j a h => st.pe j a h.2, fun j k a h1 h2 => st.dj j k a h1.2 h2.2⟩
      | some t0 =>
        have er : FJ.frz i r = r.set i (some (.fr t0.toD)) := by unfold FJ.frz; rw [e]
        rw [er]
        refine ⟨by rw [List.length_set]; exact st.len, gadd_le st.gh, fun j t hj => ?_, fun j a h => ?_, fun j k a h1 h2 => st.dj j k a h1.2 h2.2⟩
        · rcases getSet hj with ⟨rfl, ht, _⟩ | ⟨hne, hj⟩
          · cases ht
            obtain ⟨v, h1, h2⟩ := st.sl i t0 e
            exact ⟨v, h1, .fr (Own.freeze (Same.gadd hG) h2 fun a o ha ho => by rw [gadd_in ha]; exact ho) fun a z => z.1 rfl⟩
          · exact base j t hne.symm hj
        · obtain ⟨t, ht⟩ := st.pe j a h.2
          exact ⟨t, by rw [List.getElem?_set_ne (Ne.symm h.1)]; exact ht⟩
  · by_cases ha : P i a
    · exact .inl ⟨i, ha⟩
    · rw [gadd_out ha] at n; exact absurd h n

/-- a value as a def may read it: it stands still, or it is one object whose parts do -/
def Us (C : Ct) (G H : Hp) (d : D) (v : V) : Prop := Rep C G d v ∨ ∃ p o, v = .ref p ∧ H p = some o ∧ Flat C G d o
theorem Us.rep (s : Same G H) (u : Us C G H d v) : Rep C H d v := by
  rcases u with u | ⟨p, o, rfl, h, f⟩
  · exact Rep.mono s u
  · exact Flat.rep (Flat.mono s f) h
theorem soft_us (hs : t.soft = true) (o : Own C G H t v A) : Us C G H t.toD v := by
  cases o with
  | fr r _ => exact .inl r
  | ow h _ f _ => exact .inr ⟨_, _, rfl, h, f⟩
  | nl _ _ _ _ _ => cases hs
  | nt _ _ _ _ _ => cases hs
  | nd _ _ _ _ _ _ => cases hs
  | no _ _ _ _ _ => cases hs
/-- it is laid still -/
theorem settle_ok {G0 H0 : Hp} {P0 : Nat → Addr → Prop} (st : Sst C G H P r σ) (s : Stp G0 H0 P0 G H P) (res : Res C G H P x v A) (hA : ∀ a, A a → (∃ j, P0 j a) ∨ H0 a = none) :
    ∃ G1 P1, Sst C G1 H P1 (useE false x r) σ ∧ Stp G0 H0 P0 G1 H P1 ∧ Rep C G1 x.toD v := by
  cases x with
  | v t =>
    obtain ⟨o, n⟩ := res
    refine ⟨gadd G H A, P, st.lay (fun a h => (Own.dom o h).1) n, s.layed (fun a h => (Own.dom o h).1) hA, Own.freeze (Same.gadd fun a h => (Own.dom o h).1) o fun a u ha hu => by rw [gadd_in ha]; exact hu⟩
  | b i t =>
    obtain ⟨_, B, o, hB⟩ := res
    obtain ⟨st1, s1⟩ := st.frz i
    exact ⟨_, _, st1, s.trans s1, Own.freeze s1.gg o fun a u ha hu => by rw [gadd_in (hB a ha)]; exact hu⟩
/-- it is used: what it is stays so -/
theorem use_ok {G0 H0 : Hp} {P0 : Nat → Addr → Prop} (p : Bool) (st : Sst C G H P r σ) (s : Stp G0 H0 P0 G H P) (res : Res C G H P x v A) (hA : ∀ a, A a → (∃ j, P0 j a) ∨ H0 a = none) :
    ∃ G1 P1, Sst C G1 H P1 (useE p x r) σ ∧ Stp G0 H0 P0 G1 H P1 ∧ ∀ G2 H2 P2, Stp G1 H P1 G2 H2 P2 → (p = true → Same H H2) → Us C G2 H2 x.toD v := by
  have fin : useE p x r = useE false x r → ∃ G1 P1, Sst C G1 H P1 (useE p x r) σ ∧ Stp G0 H0 P0 G1 H P1 ∧ ∀ G2 H2 P2, Stp G1 H P1 G2 H2 P2 → (p = true → Same H H2) → Us C G2 H2 x.toD v := fun e => by
    obtain ⟨G1, P1, h1, h2, h3⟩ := settle_ok st s res hA
    rw [e]
    exact ⟨G1, P1, h1, h2, fun G2 H2 P2 s2 _ => .inl (Rep.mono s2.gg h3)⟩
  cases x with
  | v t => exact fin rfl
  | b i t =>
    by_cases hp : p = true ∧ t.soft = true
    · obtain ⟨hp, hs⟩ := hp
      subst hp
      obtain ⟨_, B, o, hB⟩ := res
      have er : useE true (.b i t) r = r := by unfold useE; simp [hs]
      rw [er]
      refine ⟨G, P, st, s, fun G2 H2 P2 s2 hp => ?_⟩
      rcases soft_us hs o with h | ⟨q, u, h1, h2, h3⟩
      · exact .inl (Rep.mono s2.gg h)
      · exact .inr ⟨q, u, h1, hp rfl _ _ h2, Flat.mono s2.gg h3⟩
    · refine fin ?_
      unfold useE
      have : (p && t.soft) = false := by
        cases p <;> cases h : t.soft <;> simp_all
      simp [this]
theorem look_ok {G0 H0 : Hp} {P0 : Nat → Addr → Prop} (p : Bool) (st : Sst C G H P r σ) (s : Stp G0 H0 P0 G H P) (res : Res C G H P x v A) (hA : ∀ a, A a → (∃ j, P0 j a) ∨ H0 a = none) :
    ∃ G1 P1, Sst C G1 H P1 (lookE p x r) σ ∧ Stp G0 H0 P0 G1 H P1 ∧ ∀ G2 H2 P2, Stp G1 H P1 G2 H2 P2 → Same G2 H2 → (p = true → Same H H2) → Rep C H2 x.toD v := by
  have fin : lookE p x r = useE false x r → ∃ G1 P1, Sst C G1 H P1 (lookE p x r) σ ∧ Stp G0 H0 P0 G1 H P1 ∧ ∀ G2 H2 P2, Stp G1 H P1 G2 H2 P2 → Same G2 H2 → (p = true → Same H H2) → Rep C H2 x.toD v := fun e => by
    obtain ⟨G1, P1, h1, h2, h3⟩ := settle_ok st s res hA
    rw [e]
    exact ⟨G1, P1, h1, h2, fun G2 H2 P2 s2 g2 _ => Rep.mono (s2.gg.trans g2) h3⟩
  cases x with
  | v t => exact fin rfl
  | b i t =>
    cases p with
    | false => exact fin rfl
    | true =>
      obtain ⟨_, B, o, hB⟩ := res
      exact ⟨G, P, st, s, fun G2 H2 P2 s2 g2 hp => Rep.mono (hp rfl) (Own.rep st.gh o)⟩
end

/-! ### readings -/
def Post (C : Ct) (G H : Hp) (P : Nat → Addr → Prop) (r' : Env) (σ : St) (pu : Bool) (x : Val) (Q : VK) : Prop :=
  ∀ v G' H' P' A, Sst C G' H' P' r' σ → Stp G H P G' H' P' → Res C G' H' P' x v A → (∀ a, A a → (∃ j, P j a) ∨ H a = none) → (pu = true → Same H H') → Q v H'
def tE (C : Ct) (e : E) : TE := fun σ H Q => ∃ G P r x r', Sst C G H P r σ ∧ ev e r = .ok x r' ∧ Post C G H P r' σ e.pu x Q
/-- in a state that was come to by s -/
theorem tE_at {C : Ct} {e : E} {G H : Hp} {P : Nat → Addr → Prop} {r r' : Env} {x : Val} {σ : St} {Q : VK} (st : Sst C G H P r σ) (h : ev e r = .ok x r')
    (k : ∀ v G' H' P' A, Sst C G' H' P' r' σ → Stp G H P G' H' P' → Res C G' H' P' x v A → (∀ a, A a → (∃ j, P j a) ∨ H a = none) → (e.pu = true → Same H H') → Q v H') : tE C e σ H Q := ⟨G, P, r, x, r', st, h, k⟩
end FJ

/-! What operations hand on; the operators. -/
namespace FJ
open PySem L2

/-- new objects are laid -/
structure Grow (G H G' H' : Hp) : Prop where
  gg : Same G G'
  hh : Same H H'
  gh : Same G' H'
  nw : ∀ (a : Addr), G a = none → G' a ≠ none → H a = none
def Alc (C : Ct) (G H : Hp) (t : T) (Q : VK) : Prop := ∀ v G' H' A, Grow G H G' H' → Own C G' H' t v A → (∀ a, A a → H a = none) → Q v H'
section
variable {C : Ct} {G H G' H' : Hp} {P P' : Nat → Addr → Prop} {r r' : Env} {σ σ' : St} {A B : Addr → Prop} {x : Val} {v : V} {t : T} {d : D} {Q : VK}
theorem Grow.refl (s : Same G H) : Grow G H G H := ⟨Same.refl _, Same.refl _, s, fun _ h n => absurd h n⟩
theorem Same.nu {a : Addr} {o : HO} (h : H a = none) : Same H (upd H a o) := fun b u e => by rw [upd_ne (ne_of_none e h)]; exact e
theorem Same.no (s : Same G H) {a : Addr} (h : H a = Option.none) : G a = Option.none := Same.free s h
theorem Grow.nu (s : Same G H) {a : Addr} {o : HO} (h : H a = none) : Grow G H G (upd H a o) := ⟨Same.refl _, Same.nu h, s.trans (Same.nu h), fun _ h n => absurd h n⟩
theorem Grow.nuF (s : Same G H) {a : Addr} {o : HO} (h : H a = none) : Grow G H (upd G a o) (upd H a o) where
  gg := Same.nu (Same.no s h)
  hh := Same.nu h
  gh := fun b u e => by
    by_cases hb : b = a
    · subst hb; rw [upd_same] at e ⊢; exact e
    · rw [upd_ne hb] at e ⊢; exact s b u e
  nw := fun b hb n => by
    by_cases hb' : b = a
    · subst hb'; exact h
    · rw [upd_ne hb'] at n; exact absurd hb n
theorem Grow.trans {G1 H1 G2 H2 : Hp} (a : Grow G H G1 H1) (b : Grow G1 H1 G2 H2) : Grow G H G2 H2 :=
  ⟨a.gg.trans b.gg, a.hh.trans b.hh, b.gh, fun x h n => by
    by_cases h1 : G1 x = none
    · exact Same.no a.hh (b.nw x h1 n)
    · exact a.nw x h h1⟩
theorem Sst.grow (st : Sst C G H P r σ) (g : Grow G H G' H') : Sst C G' H' P r σ where
  len := st.len
  gh := g.gh
  sl := fun i t e => by
    obtain ⟨v, h1, h2⟩ := st.sl i t e
    refine ⟨v, h1, Own.mono g.gg h2 (fun a h => ?_) fun a o _ h => g.hh a o h⟩
    by_cases hn : G' a = none
    · exact hn
    · exact absurd (g.nw a (Own.dom h2 h).1 hn) (Own.dom h2 h).2
  pe := st.pe
  dj := st.dj
theorem Stp.grow (g : Grow G H G' H') : Stp G H P G' H' P := ⟨g.gg, fun a o h _ => g.hh a o h, fun a h => Same.no g.hh h, fun i a h => .inl ⟨i, h⟩, fun a h n => .inr (g.nw a h n)⟩
/-- the end of an expression -/
theorem Post.alc {G0 H0 : Hp} {P0 : Nat → Addr → Prop} {pu : Bool} (k : Post C G0 H0 P0 r σ pu (.v t) Q) (st : Sst C G H P r σ) (s : Stp G0 H0 P0 G H P) (hp : pu = true → Same H0 H) : Alc C G H t Q := fun v G' H' A g o hA => by
  refine k v G' H' P A (st.grow g) (s.trans (Stp.grow g)) ⟨o, fun i a ha hi => ?_⟩ (fun a ha => .inr (s.ld a (hA a ha))) fun e => (hp e).trans g.hh
  exact (st.dom hi).2 (hA a ha)
theorem Alc.fr (k : Alc C G H (.fr d) Q) (s : Same G H) (h : Rep C G d v) : Q v H := k v G H (fun _ => False) (Grow.refl s) (.fr h fun _ z => z) fun _ z => z.elim
theorem Alc.own (k : Alc C G H (.ow d) Q) (s : Same G H) {a : Addr} {o : HO} (ha : H a = none) (f : Flat C G d o) : Q (.ref a) (upd H a o) :=
  k (.ref a) G (upd H a o) (fun b => b = a) (Grow.nu s ha) (.ow upd_same (Same.no s ha) f fun _ => Iff.rfl) fun b e => by rw [e]; exact ha
theorem Alc.tup {ds : List D} {vs : List V} (k : Alc C G H (.fr (.tup ds)) Q) (s : Same G H) {a : Addr} (ha : H a = none) (f : Reps C G ds vs) : Q (.ref a) (upd H a (.tup vs)) :=
  k (.ref a) (upd G a (.tup vs)) (upd H a (.tup vs)) (fun _ => False) (Grow.nuF s ha) (.fr (.tup upd_same (Reps.mono (Same.nu (Same.no s ha)) f)) fun _ z => z) fun _ z => z.elim
/-- a value used: what it is -/
theorem Us.int {i : Int} (u : Us C G H (.int i) v) : v = .int i := by
  rcases u with u | ⟨p, o, _, _, f⟩
  · cases u; rfl
  · cases f
theorem Us.bl {i : Bool} (u : Us C G H (.bl i) v) : v = .bl i := by
  rcases u with u | ⟨p, o, _, _, f⟩
  · cases u; rfl
  · cases f
theorem Us.str {i : Str} (u : Us C G H (.str i) v) : v = .str i := by
  rcases u with u | ⟨p, o, _, _, f⟩
  · cases u; rfl
  · cases f
theorem Us.lst {ds : List D} (s : Same G H) (u : Us C G H (.lst ds) v) : ∃ p vs, v = .ref p ∧ H p = some (.lst vs) ∧ Reps C G ds vs := by
  rcases u with u | ⟨p, o, e, h, f⟩
  · cases u with
    | lst h r => exact ⟨_, _, rfl, s _ _ h, r⟩
  · cases f with
    | lst r => exact ⟨p, _, e, h, r⟩
theorem Us.tup {ds : List D} (s : Same G H) (u : Us C G H (.tup ds) v) : ∃ p vs, v = .ref p ∧ H p = some (.tup vs) ∧ G p = some (.tup vs) ∧ Reps C G ds vs := by
  rcases u with u | ⟨p, o, e, h, f⟩
  · cases u with
    | tup h r => exact ⟨_, _, rfl, s _ _ h, h, r⟩
  · cases f
theorem Us.scr {ns : List Int} (s : Same G H) (u : Us C G H (.scr ns) v) : ∃ p, v = .ref p ∧ SqL C.K H p (ns.map V.int) := by
  rcases u with u | ⟨p, o, e, h, f⟩
  · cases u with
    | scr h => exact ⟨_, rfl, Same.seq s h⟩
  · cases f
theorem Us.dK {ks : List Key} {ds : List D} (s : Same G H) (u : Us C G H (.dK ks ds) v) : ∃ p vs, v = .ref p ∧ H p = some (.dK (ks.zip vs)) ∧ ks.length = ds.length ∧ Reps C G ds vs := by
  rcases u with u | ⟨p, o, e, h, f⟩
  · cases u with
    | dK h l r => exact ⟨_, _, rfl, s _ _ h, l, r⟩
  · cases f with
    | dK l r => exact ⟨p, _, e, h, l, r⟩
theorem Us.dT {ks : List (List Key)} {ds : List D} (s : Same G H) (u : Us C G H (.dT ks ds) v) : ∃ p vs, v = .ref p ∧ H p = some (.dT (ks.zip vs)) ∧ ks.length = ds.length ∧ Reps C G ds vs := by
  rcases u with u | ⟨p, o, e, h, f⟩
  · cases u with
    | dT h l r => exact ⟨_, _, rfl, s _ _ h, l, r⟩
  · cases f with
    | dT l r => exact ⟨p, _, e, h, l, r⟩
theorem Us.obj {c : Nat} {ds : List D} (s : Same G H) (u : Us C G H (.obj c ds) v) : ∃ p dx vs, v = .ref p ∧ H p = some (.ins (C.cls c) dx ((C.fld c).zip vs)) ∧ Reps C G ds vs := by
  rcases u with u | ⟨p, o, e, h, f⟩
  · cases u with
    | obj h r => exact ⟨_, _, _, rfl, s _ _ h, r⟩
  · cases f with
    | obj r => exact ⟨p, _, _, e, h, r⟩
end

theorem mulOk_ok {i j : Int} (h : mulOk i j = true) : CMul i j := by
  unfold mulOk at h
  rw [Bool.or_eq_true, decide_eq_true_eq, decide_eq_true_eq] at h
  exact h
theorem divOk_ok {j : Int} (h : divOk j = true) : 0 < j ∧ j.natAbs.log2 < 9000 := by
  unfold divOk at h
  rw [decide_eq_true_eq] at h
  refine ⟨h.1, ?_⟩
  have h1 : j.natAbs < 2 ^ 64 := by omega
  have := PySem.Flt.log2_lt_of (by decide : 0 < 64) h1
  omega

/-- a binary operator, by trees -/
def rB (C : Ct) (o : Bop) : R2 := fun x y H Q => ∃ G a b t, Same G H ∧ Us C G H a x ∧ Us C G H b y ∧ binD o a b = some t ∧ Alc C G H t Q
def opOf : Bop → Operator
  | .add => .Add | .sub => .Sub | .mul => .Mult | .fdiv => .FloorDiv | .mod => .Mod | .pow => .Pow
theorem binOp_of {o : Operator} {b : Bop} (h : binOp o = some b) : o = opOf b := by
  cases o <;> simp [binOp] at h <;> subst h <;> rfl
theorem rep_vals {C : Ct} {G : Hp} {ds : List D} {vs : List V} (r : Reps C G ds vs) (n : Nat) : Reps C G (rep n ds) (List.replicate n vs).flatten := by
  unfold rep
  induction n with
  | zero => exact .nil
  | succ n ih => rw [List.replicate_succ, List.replicate_succ, List.flatten_cons, List.flatten_cons]; exact Reps.app r ih
theorem rep_fold (z : Str) (n : Nat) : (⟨(List.replicate n z.cps).foldl (· ++ ·) #[]⟩ : Str) = Str.rep n z := by
  have f : ∀ (n : Nat) (acc : Array Nat), ((List.replicate n z.cps).foldl (· ++ ·) acc).toList = acc.toList ++ rep n z.cps.toList := by
    intro n
    induction n with
    | zero => intro acc; simp [rep]
    | succ n ih =>
      intro acc
      rw [List.replicate_succ, List.foldl_cons, ih]
      simp [rep, List.replicate_succ]
  unfold Str.rep
  congr 1
  apply Array.toList_inj.mp
  rw [f]
  simp
theorem rep_self (z : Str) (n : Nat) (h : n = 1 ∨ z.length = 0) : Str.rep n z = z := by
  unfold Str.rep rep
  rcases h with rfl | h
  · simp
  · have : z.cps.toList = [] := by
      apply List.length_eq_zero_iff.mp
      simpa [Str.length] using h
    rw [this]
    have e : (List.replicate n ([] : List Nat)).flatten = [] := by
      induction n with
      | zero => rfl
      | succ n ih => simp [List.replicate_succ, ih]
    rw [e, ← this]
theorem op_reps {X : Cx} (z : Str) (j : Int) (h1 : 1 ≤ j) (h2 : j ≤ 1000) (h3 : z.length ≤ 1000) : ∀ (pins : List (Addr × Obj)) (s : Shared) (σ : L2.St) (H : Hp) (v u : Value) (Q : VK), Inv X pins σ H s → RelV (.str z) v → RelV (.int j) u → Q (.str (Str.rep j.toNat z)) H →
    wpAny (model X.prog X.w) X.A (binaryOp .Mult v u) (fun w s1 => ∃ y H1, Inv X pins σ H1 s1 ∧ RelV y w ∧ Q y H1) X.xe s := by
  intro pins s σ H v u Q I rx ry q
  obtain ⟨t, rfl⟩ := rx
  obtain ⟨t2, rfl⟩ := ry
  have big : 1000000 ≤ sizeLine := by decide +kernel
  have hmul : z.length * j.toNat ≤ 1000000 := Nat.le_trans (Nat.mul_le_mul h3 (show j.toNat ≤ 1000 by omega)) (by decide)
  refine PySem.P.mul_str (by
    have e1 : decide (j < -(2 ^ 63 : Int)) = false := decide_eq_false (by omega)
    have e2 : decide (j ≥ 2 ^ 63) = false := decide_eq_false (by omega)
    rw [e1, e2]; rfl) (fun _ _ => ?_) (fun _ _ => ?_) ?_
  · have : (1000 : Int) ≤ (2 ^ 63 - 1) / j := Int.le_ediv_of_mul_le (by omega) (by omega)
    omega
  · exact decide_eq_false (by omega)
  · rw [if_neg (by omega)]
    split
    · rename_i hc
      have e := rep_self z j.toNat (by
        rw [Bool.or_eq_true, beq_iff_eq, beq_iff_eq] at hc
        omega)
      rw [e] at q
      exact ⟨.str z, H, I, ⟨t, rfl⟩, q⟩
    · rw [rep_fold]
      have hl : (Str.rep j.toNat z).length ≤ sizeLine := by
        have : (Str.rep j.toNat z).length = z.length * j.toNat := by
          unfold Str.rep rep
          show (List.toArray _).size = _
          rw [List.size_toArray, List.length_flatten, List.map_replicate, List.sum_replicate_nat, Array.length_toList, Nat.mul_comm]
          rfl
        omega
      exact ⟨hl, .str _, H, I.tok _, ⟨_, rfl⟩, q⟩
theorem op_bin {X : Cx} {C : Ct} (hK : X.K = C.K) (o : Bop) : OpR X (binaryOp (opOf o)) (rB C o) := by
  intro pins s σ H x y v u Q I rx ry ⟨G, a, b, t, gh, ux, uy, e, k⟩
  cases o with
  | add =>
    cases a with
    | int i =>
      cases b with
      | int j =>
        cases e
        cases ux.int; cases uy.int
        exact op_add pins s σ H _ _ v u Q I rx ry ⟨i, j, rfl, rfl, k.fr gh .int⟩
      | _ => cases e
    | str i =>
      cases b with
      | str j =>
        simp only [binD] at e
        split at e
        · cases e
          cases ux.str; cases uy.str
          exact op_add_str pins s σ H _ _ v u Q I rx ry ⟨i, j, rfl, rfl, by assumption, k.fr gh .str⟩
        · cases e
      | _ => cases e
    | lst xs =>
      cases b with
      | lst ys =>
        simp only [binD] at e
        split at e
        · cases e
          obtain ⟨p, vs, rfl, h1, r1⟩ := ux.lst gh
          obtain ⟨q, us, rfl, h2, r2⟩ := uy.lst gh
          refine op_cat pins s σ H _ _ v u Q I rx ry ⟨p, q, vs, us, rfl, rfl, h1, h2, ?_, fun z hz => k.own gh hz (.lst (Reps.app r1 r2))⟩
          rw [← Reps.length r1, ← Reps.length r2]; assumption
        · cases e
      | _ => cases e
    | tup xs =>
      cases b with
      | tup ys =>
        simp only [binD] at e
        split at e
        · cases e
          obtain ⟨p, vs, rfl, h1, g1, r1⟩ := ux.tup gh
          obtain ⟨q, us, rfl, h2, g2, r2⟩ := uy.tup gh
          refine op_catA pins s σ H _ _ v u Q I rx ry ⟨p, q, vs, us, rfl, rfl, SqT.of h1, SqT.of h2, ?_, fun e => ?_, fun _ e => ?_, fun _ _ z hz => k.tup gh hz (Reps.app r1 r2)⟩
          · rw [← Reps.length r1, ← Reps.length r2]; assumption
          · subst e
            cases r1
            exact k.fr gh (.tup g2 r2)
          · subst e
            cases r2
            rw [List.append_nil] at k
            exact k.fr gh (.tup g1 r1)
        · cases e
      | _ => cases e
    | _ => cases e
  | sub =>
    cases a with
    | int i =>
      cases b with
      | int j =>
        cases e
        cases ux.int; cases uy.int
        exact op_sub pins s σ H _ _ v u Q I rx ry ⟨i, j, rfl, rfl, k.fr gh .int⟩
      | _ => cases e
    | _ => cases e
  | mul =>
    cases a with
    | int i =>
      cases b with
      | int j =>
        simp only [binD] at e
        split at e
        · rename_i hm
          cases e
          cases ux.int; cases uy.int
          exact op_mul pins s σ H _ _ v u Q I rx ry ⟨i, j, rfl, rfl, mulOk_ok hm, k.fr gh .int⟩
        · cases e
      | _ => cases e
    | lst xs =>
      cases b with
      | int j =>
        simp only [binD] at e
        split at e
        · rename_i hm
          cases e
          cases uy.int
          obtain ⟨p, vs, rfl, h1, r1⟩ := ux.lst gh
          refine op_rep pins s σ H _ _ v u Q I rx ry ⟨p, j, vs, rfl, rfl, h1, hm.1, hm.2.1, ?_, fun z hz => k.own gh hz (.lst (rep_vals r1 _))⟩
          rw [← Reps.length r1]; exact hm.2.2
        · cases e
      | _ => cases e
    | str z =>
      cases b with
      | int j =>
        simp only [binD] at e
        split at e
        · rename_i hm
          cases e
          cases ux.str; cases uy.int
          exact op_reps z j hm.1 hm.2.1 hm.2.2 pins s σ H v u Q I rx ry (k.fr gh .str)
        · cases e
      | _ => cases e
    | _ => cases e
  | fdiv =>
    cases a with
    | int i =>
      cases b with
      | int j =>
        simp only [binD] at e
        split at e
        · rename_i hm
          cases e
          cases ux.int; cases uy.int
          exact op_fdivW pins s σ H _ _ v u Q I rx ry ⟨i, j, rfl, rfl, divOk_ok hm, k.fr gh .int⟩
        · cases e
      | _ => cases e
    | _ => cases e
  | mod =>
    cases a with
    | int i =>
      cases b with
      | int j =>
        simp only [binD] at e
        split at e
        · rename_i hm
          cases e
          cases ux.int; cases uy.int
          exact op_mod pins s σ H _ _ v u Q I rx ry ⟨i, j, rfl, rfl, hm, k.fr gh .int⟩
        · cases e
      | _ => cases e
    | _ => cases e
  | pow =>
    cases a with
    | int i =>
      cases b with
      | int j =>
        simp only [binD] at e
        split at e
        · rename_i hm
          cases e
          cases ux.int; cases uy.int
          exact op_pow pins s σ H _ _ v u Q I rx ry ⟨i, j, rfl, rfl, ⟨hm.1, hm.2.1, hm.2.2⟩, k.fr gh .int⟩
        · cases e
      | _ => cases e
    | _ => cases e
end FJ

/-! Two things compared, by their trees. -/
namespace FJ
open PySem L2 PySem.SeqAt

theorem pys_length : ∀ ds : List D, (D.pys ds).length = ds.length
  | [] => rfl
  | _ :: r => by simp [D.pys, pys_length r]
theorem pys_get : ∀ (ds : List D) (j : Nat), (D.pys ds).getD j .none = (ds.getD j .non).py
  | [], _ => by simp [D.pys, D.py]
  | d :: r, 0 => by simp [D.pys]
  | d :: r, j + 1 => by simpa [D.pys] using pys_get r j
theorem plains_get {n : Nat} : ∀ {ds : List D} {j : Nat} {d : D}, D.plains n ds = true → ds[j]? = some d → d.plain n = true
  | [], _, _, _, e => by simp at e
  | c :: r, 0, d, h, e => by
    simp only [D.plains, Bool.and_eq_true] at h
    simp at e; subst e; exact h.1
  | c :: r, j + 1, d, h, e => by
    simp only [D.plains, Bool.and_eq_true] at h
    exact plains_get (j := j) h.2 (by simpa using e)
mutual
theorem eqv_self : ∀ (n : Nat) (d : D), d.plain n = true → PyData.eqv d.py d.py = true
  | _, .non, _ => by simp [D.py, PyData.eqv]
  | _, .bl b, _ => by simp [D.py, PyData.eqv]
  | _, .int i, _ => by simp [D.py, PyData.eqv]
  | _, .str s, _ => by simp [D.py, PyData.eqv]
  | 0, .tup _, h => by simp [D.plain] at h
  | 0, .lst _, h => by simp [D.plain] at h
  | n + 1, .tup xs, h => by
    simp only [D.plain] at h
    simp only [D.py, PyData.eqv]
    exact eqv_selfs n xs h
  | n + 1, .lst xs, h => by
    simp only [D.plain] at h
    simp only [D.py, PyData.eqv]
    exact eqv_selfs n xs h
  | n, .dK _ _, h => by cases n <;> simp [D.plain] at h
  | n, .dT _ _, h => by cases n <;> simp [D.plain] at h
  | n, .obj _ _, h => by cases n <;> simp [D.plain] at h
  | n, .scr _, h => by cases n <;> simp [D.plain] at h
  | n, .tab _ _ _, h => by cases n <;> simp [D.plain] at h
theorem eqv_selfs : ∀ (n : Nat) (ds : List D), D.plains n ds = true → PyData.eqvAll (D.pys ds) (D.pys ds) = true
  | _, [], _ => by simp [D.pys, PyData.eqvAll]
  | n, d :: r, h => by
    simp only [D.plains, Bool.and_eq_true] at h
    simp only [D.pys, PyData.eqvAll, eqv_self n d h.1, eqv_selfs n r h.2, Bool.and_self]
end
section
variable {C : Ct} {H : Hp}
mutual
theorem Rep.same : ∀ {d e : D} {v : V} {n m : Nat}, Rep C H d v → Rep C H e v → d.plain n = true → e.plain m = true → d = e
  | _, _, _, _, _, .non, h, _, _ => by cases h; rfl
  | _, _, _, _, _, .bl, h, _, _ => by cases h; rfl
  | _, _, _, _, _, .int, h, _, _ => by cases h; rfl
  | _, _, _, _, _, .str, h, _, _ => by cases h; rfl
  | .tup xs, _, _, n, m, .tup h r, h', hn, hm => by
    cases h' with
    | tup g q =>
      rw [h] at g; cases g
      cases n with
      | zero => simp [D.plain] at hn
      | succ n =>
        cases m with
        | zero => simp [D.plain] at hm
        | succ m =>
          simp only [D.plain] at hn hm
          rw [Reps.same r q hn hm]
    | lst g q => rw [h] at g; cases g
    | dK g _ q => rw [h] at g; cases g
    | dT g _ q => rw [h] at g; cases g
    | obj g q => rw [h] at g; cases g
    | scr g => cases m <;> simp [D.plain] at hm
    | tab _ _ _ => cases m <;> simp [D.plain] at hm
  | .lst xs, _, _, n, m, .lst h r, h', hn, hm => by
    cases h' with
    | lst g q =>
      rw [h] at g; cases g
      cases n with
      | zero => simp [D.plain] at hn
      | succ n =>
        cases m with
        | zero => simp [D.plain] at hm
        | succ m =>
          simp only [D.plain] at hn hm
          rw [Reps.same r q hn hm]
    | tup g q => rw [h] at g; cases g
    | dK g _ q => rw [h] at g; cases g
    | dT g _ q => rw [h] at g; cases g
    | obj g q => rw [h] at g; cases g
    | scr g => cases m <;> simp [D.plain] at hm
    | tab _ _ _ => cases m <;> simp [D.plain] at hm
  | _, _, _, n, _, .dK _ _ _, _, hn, _ => by cases n <;> simp [D.plain] at hn
  | _, _, _, n, _, .dT _ _ _, _, hn, _ => by cases n <;> simp [D.plain] at hn
  | _, _, _, n, _, .obj _ _, _, hn, _ => by cases n <;> simp [D.plain] at hn
  | _, _, _, n, _, .scr _, _, hn, _ => by cases n <;> simp [D.plain] at hn
  | _, _, _, n, _, .tab _ _ _ _ _, _, hn, _ => by cases n <;> simp [D.plain] at hn
theorem Reps.same : ∀ {ds es : List D} {vs : List V} {n m : Nat}, Reps C H ds vs → Reps C H es vs → D.plains n ds = true → D.plains m es = true → ds = es
  | _, _, _, _, _, .nil, h, _, _ => by cases h; rfl
  | _, _, _, n, m, .cons a b, .cons a' b', hn, hm => by
    simp only [D.plains, Bool.and_eq_true] at hn hm
    rw [Rep.same a a' hn.1 hm.1, Reps.same b b' hn.2 hm.2]
end
end
section
variable {P : Program} {w : World} {C : Ct} {H : Hp} {s : Shared}
theorem lst_is (ok : HOk P w H s.heap) {p : Addr} {vs : List V} (h : H p = some (.lst vs)) : ∃ its, Vals vs its ∧ s.heap.IsList p its.toArray := by
  obtain ⟨_, its, n, r, e⟩ := (show ObjOk P w H s.heap p (.lst vs) from ok p _ h)
  exact ⟨its, r, _, e, rfl, n, rfl⟩
theorem tup_is (ok : HOk P w H s.heap) {p : Addr} {vs : List V} (h : H p = some (.tup vs)) : ∃ its, Vals vs its ∧ s.heap.IsTuple p its.toArray := by
  obtain ⟨_, its, r, o, e, c, n, q⟩ := (show ObjOk P w H s.heap p (.tup vs) from ok p _ h)
  exact ⟨its, r, o, e, c, n, q⟩
/-- what is shown of the parts -/
def Parts (C : Ct) (H : Hp) (s : Shared) (n : Nat) : Prop := ∀ (d e : D) (A : Around) (x y : V) (u v : Value), d.plain n = true → e.plain n = true → Rep C H d x → Rep C H e y → RelV x u → RelV y v → A.units + n < cLine →
  EqAt A s u v (PyData.eqv d.py e.py)
theorem parts_of {n : Nat} (ih : Parts C H s n) {A : Around} {ds es : List D} {vs ws : List V} {us zs : List Value} (hd : D.plains n ds = true) (he : D.plains n es = true) (r1 : Reps C H ds vs) (r2 : Reps C H es ws) (q1 : Vals vs us) (q2 : Vals ws zs)
    (hu : A.units + n < cLine) : ∀ j (h1 : j < us.toArray.size) (h2 : j < zs.toArray.size), EqAt A s us.toArray[j] zs.toArray[j] (pairEq (D.pys ds) (D.pys es) j) := fun j h1 h2 => by
  have h1' : j < us.length := by simpa using h1
  have h2' : j < zs.length := by simpa using h2
  have l1 : j < vs.length := by rw [q1.length]; exact h1'
  have l2 : j < ws.length := by rw [q2.length]; exact h2'
  obtain ⟨a, ea, ra⟩ := Reps.getV r1 (List.getElem?_eq_getElem l1)
  obtain ⟨b, eb, rb⟩ := Reps.getV r2 (List.getElem?_eq_getElem l2)
  obtain ⟨u, eu, ru⟩ := q1.get (List.getElem?_eq_getElem l1)
  obtain ⟨z, ez, rz⟩ := q2.get (List.getElem?_eq_getElem l2)
  have e1 : us.toArray[j] = u := by
    have : us[j]? = some us.toArray[j] := by simp [h1']
    rw [eu] at this; exact (Option.some.inj this).symm
  have e2 : zs.toArray[j] = z := by
    have : zs[j]? = some zs.toArray[j] := by simp [h2']
    rw [ez] at this; exact (Option.some.inj this).symm
  have e3 : pairEq (D.pys ds) (D.pys es) j = PyData.eqv a.py b.py := by
    show PyData.eqv _ _ = _
    rw [pys_get, pys_get, List.getD_eq_getElem?_getD, List.getD_eq_getElem?_getD, ea, eb]
    rfl
  rw [e1, e2, e3]
  exact ih a b A _ _ u z (plains_get hd ea) (plains_get he eb) ra rb ru rz hu
theorem rc_lists {n : Nat} (ih : Parts C H s n) {A : Around} {ds es : List D} {vs ws : List V} {us zs : List Value} {p q : Addr} (hd : D.plains n ds = true) (he : D.plains n es = true) (r1 : Reps C H ds vs) (r2 : Reps C H es ws) (q1 : Vals vs us) (q2 : Vals ws zs)
    (i1 : s.heap.IsList p us.toArray) (i2 : s.heap.IsList q zs.toArray) (hu : A.units + (n + 1) < cLine) : RcAt A s (.ref p) (.ref q) (PyData.eqv (.list (D.pys ds)) (.list (D.pys es))) := by
  have l1 : us.toArray.size = (D.pys ds).length := by rw [pys_length, Reps.length r1, q1.length]; simp
  have l2 : zs.toArray.size = (D.pys es).length := by rw [pys_length, Reps.length r2, q2.length]; simp
  by_cases hl : us.toArray.size = zs.toArray.size
  · have h := RcAt.lists (A := A) i1 i2 hl (by omega) (parts_of ih hd he r1 r2 q1 q2 (by show A.units + 1 + n < cLine; omega))
    have e : (List.range us.toArray.size).all (pairEq (D.pys ds) (D.pys es)) = PyData.eqvAll (D.pys ds) (D.pys es) := by
      rw [l1]
      exact eqvAll_same_length (by omega)
    rw [e] at h
    simpa only [PyData.eqv] using h
  · have h := RcAt.lists_lengths (A := A) i1 i2 (by simpa using hl) (by omega)
    have e : PyData.eqvAll (D.pys ds) (D.pys es) = false := eqvAll_other_length (by omega)
    simp only [PyData.eqv, e]
    exact h
theorem rc_tups {n : Nat} (ih : Parts C H s n) {A : Around} {ds es : List D} {vs ws : List V} {us zs : List Value} {p q : Addr} (hd : D.plains n ds = true) (he : D.plains n es = true) (r1 : Reps C H ds vs) (r2 : Reps C H es ws) (q1 : Vals vs us) (q2 : Vals ws zs)
    (i1 : s.heap.IsTuple p us.toArray) (i2 : s.heap.IsTuple q zs.toArray) (hu : A.units + (n + 1) < cLine) : RcAt A s (.ref p) (.ref q) (PyData.eqv (.tuple (D.pys ds)) (.tuple (D.pys es))) := by
  have l1 : us.toArray.size = (D.pys ds).length := by rw [pys_length, Reps.length r1, q1.length]; simp
  have l2 : zs.toArray.size = (D.pys es).length := by rw [pys_length, Reps.length r2, q2.length]; simp
  have h := RcAt.tuples (A := A) i1 i2 (by omega) (parts_of ih hd he r1 r2 q1 q2 (by show A.units + 1 + n < cLine; omega))
  have e := eqvAll_eq (D.pys ds) (D.pys es)
  rw [l1, l2, e] at h
  simpa only [PyData.eqv] using h
theorem rc_at (ok : HOk P w H s.heap) {n : Nat} (ih : ∀ m, m < n → Parts C H s m) : ∀ (d e : D) (A : Around) (x y : V) (u v : Value), d.plain n = true → e.plain n = true → Rep C H d x → Rep C H e y → RelV x u → RelV y v → A.units + n < cLine →
    RcAt A s u v (PyData.eqv d.py e.py) := by
  intro d e A x y u v hd he rd re ru rv hu
  have hu0 : A.units < cLine := by omega
  cases rd with
  | non =>
    cases ru
    cases re with
    | non => cases rv; exact RcAt.none_none
    | bl => cases rv; exact RcAt.none_bool _
    | int => obtain ⟨t, rfl⟩ := rv; exact RcAt.none_int _ t
    | str => obtain ⟨t, rfl⟩ := rv; exact RcAt.none_str _ t
    | lst h r => cases rv; obtain ⟨its, q, il⟩ := lst_is ok h; exact RcAt.none_list il hu0
    | tup h r => cases rv; obtain ⟨its, q, il⟩ := tup_is ok h; exact RcAt.none_tuple il hu0
    | dK _ _ _ => cases n <;> simp [D.plain] at he
    | dT _ _ _ => cases n <;> simp [D.plain] at he
    | obj _ _ => cases n <;> simp [D.plain] at he
    | scr _ => cases n <;> simp [D.plain] at he
    | tab _ _ _ => cases n <;> simp [D.plain] at he
  | bl =>
    cases ru
    cases re with
    | non => cases rv; exact RcAt.bool_none _
    | bl => cases rv; exact RcAt.bool_bool _ _
    | int => obtain ⟨t, rfl⟩ := rv; exact RcAt.bool_int _ _ t
    | str => obtain ⟨t, rfl⟩ := rv; exact RcAt.bool_str _ _ t
    | lst h r => cases rv; obtain ⟨its, q, il⟩ := lst_is ok h; exact RcAt.bool_list _ il hu0
    | tup h r => cases rv; obtain ⟨its, q, il⟩ := tup_is ok h; exact RcAt.bool_tuple _ il hu0
    | dK _ _ _ => cases n <;> simp [D.plain] at he
    | dT _ _ _ => cases n <;> simp [D.plain] at he
    | obj _ _ => cases n <;> simp [D.plain] at he
    | scr _ => cases n <;> simp [D.plain] at he
    | tab _ _ _ => cases n <;> simp [D.plain] at he
  | int =>
    obtain ⟨t0, rfl⟩ := ru
    cases re with
    | non => cases rv; exact RcAt.int_none _ _
    | bl => cases rv; exact RcAt.int_bool _ _ _
    | int => obtain ⟨t, rfl⟩ := rv; exact RcAt.int_int _ _ _ t
    | str => obtain ⟨t, rfl⟩ := rv; exact RcAt.int_str _ _ _ t
    | lst h r => cases rv; obtain ⟨its, q, il⟩ := lst_is ok h; exact RcAt.int_list _ _ il hu0
    | tup h r => cases rv; obtain ⟨its, q, il⟩ := tup_is ok h; exact RcAt.int_tuple _ _ il hu0
    | dK _ _ _ => cases n <;> simp [D.plain] at he
    | dT _ _ _ => cases n <;> simp [D.plain] at he
    | obj _ _ => cases n <;> simp [D.plain] at he
    | scr _ => cases n <;> simp [D.plain] at he
    | tab _ _ _ => cases n <;> simp [D.plain] at he
  | str =>
    obtain ⟨t0, rfl⟩ := ru
    cases re with
    | non => cases rv; exact RcAt.str_none _ _
    | bl => cases rv; exact RcAt.str_bool _ _ _
    | int => obtain ⟨t, rfl⟩ := rv; exact RcAt.str_int _ _ _ t
    | str => obtain ⟨t, rfl⟩ := rv; exact RcAt.str_str _ _ _ t
    | lst h r => cases rv; obtain ⟨its, q, il⟩ := lst_is ok h; exact RcAt.str_list _ _ il hu0
    | tup h r => cases rv; obtain ⟨its, q, il⟩ := tup_is ok h; exact RcAt.str_tuple _ _ il hu0
    | dK _ _ _ => cases n <;> simp [D.plain] at he
    | dT _ _ _ => cases n <;> simp [D.plain] at he
    | obj _ _ => cases n <;> simp [D.plain] at he
    | scr _ => cases n <;> simp [D.plain] at he
    | tab _ _ _ => cases n <;> simp [D.plain] at he
  | lst h1 r1 =>
    cases ru
    obtain ⟨its, q1, i1⟩ := lst_is ok h1
    cases re with
    | non => cases rv; exact RcAt.list_none i1 hu0
    | bl => cases rv; exact RcAt.list_bool _ i1 hu0
    | int => obtain ⟨t, rfl⟩ := rv; exact RcAt.list_int _ t i1 hu0
    | str => obtain ⟨t, rfl⟩ := rv; exact RcAt.list_str _ t i1 hu0
    | lst h2 r2 =>
      cases rv
      obtain ⟨its2, q2, i2⟩ := lst_is ok h2
      cases n with
      | zero => simp [D.plain] at hd
      | succ n =>
        simp only [D.plain] at hd he
        exact rc_lists (ih n (Nat.lt_succ_self n)) hd he r1 r2 q1 q2 i1 i2 hu
    | tup h2 r2 => cases rv; obtain ⟨its2, q2, i2⟩ := tup_is ok h2; exact RcAt.list_tuple i1 i2 hu0
    | dK _ _ _ => cases n <;> simp [D.plain] at he
    | dT _ _ _ => cases n <;> simp [D.plain] at he
    | obj _ _ => cases n <;> simp [D.plain] at he
    | scr _ => cases n <;> simp [D.plain] at he
    | tab _ _ _ => cases n <;> simp [D.plain] at he
  | tup h1 r1 =>
    cases ru
    obtain ⟨its, q1, i1⟩ := tup_is ok h1
    cases re with
    | non => cases rv; exact RcAt.tuple_none i1 hu0
    | bl => cases rv; exact RcAt.tuple_bool _ i1 hu0
    | int => obtain ⟨t, rfl⟩ := rv; exact RcAt.tuple_int _ t i1 hu0
    | str => obtain ⟨t, rfl⟩ := rv; exact RcAt.tuple_str _ t i1 hu0
    | lst h2 r2 => cases rv; obtain ⟨its2, q2, i2⟩ := lst_is ok h2; exact RcAt.tuple_list i1 i2 hu0
    | tup h2 r2 =>
      cases rv
      obtain ⟨its2, q2, i2⟩ := tup_is ok h2
      cases n with
      | zero => simp [D.plain] at hd
      | succ n =>
        simp only [D.plain] at hd he
        exact rc_tups (ih n (Nat.lt_succ_self n)) hd he r1 r2 q1 q2 i1 i2 hu
    | dK _ _ _ => cases n <;> simp [D.plain] at he
    | dT _ _ _ => cases n <;> simp [D.plain] at he
    | obj _ _ => cases n <;> simp [D.plain] at he
    | scr _ => cases n <;> simp [D.plain] at he
    | tab _ _ _ => cases n <;> simp [D.plain] at he
  | dK _ _ _ => cases n <;> simp [D.plain] at hd
  | dT _ _ _ => cases n <;> simp [D.plain] at hd
  | obj _ _ => cases n <;> simp [D.plain] at hd
  | scr _ => cases n <;> simp [D.plain] at hd
  | tab _ _ _ => cases n <;> simp [D.plain] at hd
theorem atom_eq {A : Around} {d e : D} {x y : V} {u v : Value} (ok : HOk P w H s.heap) {n : Nat} (hd : d.plain n = true) (he : e.plain n = true) (rd : Rep C H d x) (re : Rep C H e y) (ru : RelV x u) (rv : RelV y v) (hu : A.units + n < cLine)
    (h : RcAt A s u v (PyData.eqv d.py e.py)) : EqAt A s u v (PyData.eqv d.py e.py) := fun prog w' E Q q => by
  unfold eqBool
  refine wpAny_holding ?_
  refine wpAny_ite_split (fun hab => ?_) (fun _ => ?_)
  rotate_left
  · cases u with
    | float b t =>
      have e0 : x = .flt b := ru.inj (show RelV (.flt b) (.float b t) from ⟨t, rfl⟩)
      subst e0
      cases rd
    | _ => exact wpAny_bind (h prog w' E _ (wpAny_truthy_bool q))
  have e1 := eq_of_beq hab
  subst e1
  have e2 : x = y := ru.inj rv
  subst e2
  have e3 := Rep.same rd re hd he
  subst e3
  rw [eqv_self n d hd] at q
  exact wpAny_bind (wpAny_rule (wpAny_pure q))
theorem parts_all (ok : HOk P w H s.heap) : ∀ n, Parts C H s n := by
  intro n
  induction n using Nat.strongRecOn with
  | _ n ih =>
    intro d e A x y u v hd he rd re ru rv hu
    exact atom_eq ok hd he rd re ru rv hu (rc_at ok ih d e A x y u v hd he rd re ru rv hu)
theorem rn_lists {n : Nat} (ih : Parts C H s n) {A : Around} {ds es : List D} {vs ws : List V} {us zs : List Value} {p q : Addr} (hd : D.plains n ds = true) (he : D.plains n es = true) (r1 : Reps C H ds vs) (r2 : Reps C H es ws) (q1 : Vals vs us) (q2 : Vals ws zs)
    (i1 : s.heap.IsList p us.toArray) (i2 : s.heap.IsList q zs.toArray) (hu : A.units + (n + 1) < cLine) : RcNeAt A s (.ref p) (.ref q) (!PyData.eqv (.list (D.pys ds)) (.list (D.pys es))) := by
  have l1 : us.toArray.size = (D.pys ds).length := by rw [pys_length, Reps.length r1, q1.length]; simp
  have l2 : zs.toArray.size = (D.pys es).length := by rw [pys_length, Reps.length r2, q2.length]; simp
  by_cases hl : us.toArray.size = zs.toArray.size
  · have h := RcNeAt.lists (A := A) i1 i2 hl (by omega) (parts_of ih hd he r1 r2 q1 q2 (by show A.units + 1 + n < cLine; omega))
    have e : (List.range us.toArray.size).all (pairEq (D.pys ds) (D.pys es)) = PyData.eqvAll (D.pys ds) (D.pys es) := by
      rw [l1]
      exact eqvAll_same_length (by omega)
    rw [e] at h
    simpa only [PyData.eqv] using h
  · have h := RcNeAt.lists_lengths (A := A) i1 i2 (by simpa using hl) (by omega)
    have e : PyData.eqvAll (D.pys ds) (D.pys es) = false := eqvAll_other_length (by omega)
    simp only [PyData.eqv, e]
    exact h
theorem rn_tups {n : Nat} (ih : Parts C H s n) {A : Around} {ds es : List D} {vs ws : List V} {us zs : List Value} {p q : Addr} (hd : D.plains n ds = true) (he : D.plains n es = true) (r1 : Reps C H ds vs) (r2 : Reps C H es ws) (q1 : Vals vs us) (q2 : Vals ws zs)
    (i1 : s.heap.IsTuple p us.toArray) (i2 : s.heap.IsTuple q zs.toArray) (hu : A.units + (n + 1) < cLine) : RcNeAt A s (.ref p) (.ref q) (!PyData.eqv (.tuple (D.pys ds)) (.tuple (D.pys es))) := by
  have l1 : us.toArray.size = (D.pys ds).length := by rw [pys_length, Reps.length r1, q1.length]; simp
  have l2 : zs.toArray.size = (D.pys es).length := by rw [pys_length, Reps.length r2, q2.length]; simp
  have h := RcNeAt.tuples (A := A) i1 i2 (by omega) (parts_of ih hd he r1 r2 q1 q2 (by show A.units + 1 + n < cLine; omega))
  have e := eqvAll_eq (D.pys ds) (D.pys es)
  rw [l1, l2, e] at h
  simpa only [PyData.eqv] using h
theorem rn_at (ok : HOk P w H s.heap) {n : Nat} (ih : ∀ m, m < n → Parts C H s m) : ∀ (d e : D) (A : Around) (x y : V) (u v : Value), d.plain n = true → e.plain n = true → Rep C H d x → Rep C H e y → RelV x u → RelV y v → A.units + n < cLine →
    RcNeAt A s u v (!PyData.eqv d.py e.py) := by
  intro d e A x y u v hd he rd re ru rv hu
  have hu0 : A.units < cLine := by omega
  cases rd with
  | non =>
    cases ru
    cases re with
    | non => cases rv; exact RcNeAt.none_none
    | bl => cases rv; exact RcNeAt.none_bool _
    | int => obtain ⟨t, rfl⟩ := rv; exact RcNeAt.none_int _ t
    | str => obtain ⟨t, rfl⟩ := rv; exact RcNeAt.none_str _ t
    | lst h r => cases rv; obtain ⟨its, q, il⟩ := lst_is ok h; exact RcNeAt.none_list il hu0
    | tup h r => cases rv; obtain ⟨its, q, il⟩ := tup_is ok h; exact RcNeAt.none_tuple il hu0
    | dK _ _ _ => cases n <;> simp [D.plain] at he
    | dT _ _ _ => cases n <;> simp [D.plain] at he
    | obj _ _ => cases n <;> simp [D.plain] at he
    | scr _ => cases n <;> simp [D.plain] at he
    | tab _ _ _ => cases n <;> simp [D.plain] at he
  | bl =>
    cases ru
    cases re with
    | non => cases rv; exact RcNeAt.bool_none _
    | bl => cases rv; exact RcNeAt.bool_bool _ _
    | int => obtain ⟨t, rfl⟩ := rv; exact RcNeAt.bool_int _ _ t
    | str => obtain ⟨t, rfl⟩ := rv; exact RcNeAt.bool_str _ _ t
    | lst h r => cases rv; obtain ⟨its, q, il⟩ := lst_is ok h; exact RcNeAt.bool_list _ il hu0
    | tup h r => cases rv; obtain ⟨its, q, il⟩ := tup_is ok h; exact RcNeAt.bool_tuple _ il hu0
    | dK _ _ _ => cases n <;> simp [D.plain] at he
    | dT _ _ _ => cases n <;> simp [D.plain] at he
    | obj _ _ => cases n <;> simp [D.plain] at he
    | scr _ => cases n <;> simp [D.plain] at he
    | tab _ _ _ => cases n <;> simp [D.plain] at he
  | int =>
    obtain ⟨t0, rfl⟩ := ru
    cases re with
    | non => cases rv; exact RcNeAt.int_none _ _
    | bl => cases rv; exact RcNeAt.int_bool _ _ _
    | int => obtain ⟨t, rfl⟩ := rv; exact RcNeAt.int_int _ _ _ t
    | str => obtain ⟨t, rfl⟩ := rv; exact RcNeAt.int_str _ _ _ t
    | lst h r => cases rv; obtain ⟨its, q, il⟩ := lst_is ok h; exact RcNeAt.int_list _ _ il hu0
    | tup h r => cases rv; obtain ⟨its, q, il⟩ := tup_is ok h; exact RcNeAt.int_tuple _ _ il hu0
    | dK _ _ _ => cases n <;> simp [D.plain] at he
    | dT _ _ _ => cases n <;> simp [D.plain] at he
    | obj _ _ => cases n <;> simp [D.plain] at he
    | scr _ => cases n <;> simp [D.plain] at he
    | tab _ _ _ => cases n <;> simp [D.plain] at he
  | str =>
    obtain ⟨t0, rfl⟩ := ru
    cases re with
    | non => cases rv; exact RcNeAt.str_none _ _
    | bl => cases rv; exact RcNeAt.str_bool _ _ _
    | int => obtain ⟨t, rfl⟩ := rv; exact RcNeAt.str_int _ _ _ t
    | str => obtain ⟨t, rfl⟩ := rv; exact RcNeAt.str_str _ _ _ t
    | lst h r => cases rv; obtain ⟨its, q, il⟩ := lst_is ok h; exact RcNeAt.str_list _ _ il hu0
    | tup h r => cases rv; obtain ⟨its, q, il⟩ := tup_is ok h; exact RcNeAt.str_tuple _ _ il hu0
    | dK _ _ _ => cases n <;> simp [D.plain] at he
    | dT _ _ _ => cases n <;> simp [D.plain] at he
    | obj _ _ => cases n <;> simp [D.plain] at he
    | scr _ => cases n <;> simp [D.plain] at he
    | tab _ _ _ => cases n <;> simp [D.plain] at he
  | lst h1 r1 =>
    cases ru
    obtain ⟨its, q1, i1⟩ := lst_is ok h1
    cases re with
    | non => cases rv; exact RcNeAt.list_none i1 hu0
    | bl => cases rv; exact RcNeAt.list_bool _ i1 hu0
    | int => obtain ⟨t, rfl⟩ := rv; exact RcNeAt.list_int _ t i1 hu0
    | str => obtain ⟨t, rfl⟩ := rv; exact RcNeAt.list_str _ t i1 hu0
    | lst h2 r2 =>
      cases rv
      obtain ⟨its2, q2, i2⟩ := lst_is ok h2
      cases n with
      | zero => simp [D.plain] at hd
      | succ n =>
        simp only [D.plain] at hd he
        exact rn_lists (ih n (Nat.lt_succ_self n)) hd he r1 r2 q1 q2 i1 i2 hu
    | tup h2 r2 => cases rv; obtain ⟨its2, q2, i2⟩ := tup_is ok h2; exact RcNeAt.list_tuple i1 i2 hu0
    | dK _ _ _ => cases n <;> simp [D.plain] at he
    | dT _ _ _ => cases n <;> simp [D.plain] at he
    | obj _ _ => cases n <;> simp [D.plain] at he
    | scr _ => cases n <;> simp [D.plain] at he
    | tab _ _ _ => cases n <;> simp [D.plain] at he
  | tup h1 r1 =>
    cases ru
    obtain ⟨its, q1, i1⟩ := tup_is ok h1
    cases re with
    | non => cases rv; exact RcNeAt.tuple_none i1 hu0
    | bl => cases rv; exact RcNeAt.tuple_bool _ i1 hu0
    | int => obtain ⟨t, rfl⟩ := rv; exact RcNeAt.tuple_int _ t i1 hu0
    | str => obtain ⟨t, rfl⟩ := rv; exact RcNeAt.tuple_str _ t i1 hu0
    | lst h2 r2 => cases rv; obtain ⟨its2, q2, i2⟩ := lst_is ok h2; exact RcNeAt.tuple_list i1 i2 hu0
    | tup h2 r2 =>
      cases rv
      obtain ⟨its2, q2, i2⟩ := tup_is ok h2
      cases n with
      | zero => simp [D.plain] at hd
      | succ n =>
        simp only [D.plain] at hd he
        exact rn_tups (ih n (Nat.lt_succ_self n)) hd he r1 r2 q1 q2 i1 i2 hu
    | dK _ _ _ => cases n <;> simp [D.plain] at he
    | dT _ _ _ => cases n <;> simp [D.plain] at he
    | obj _ _ => cases n <;> simp [D.plain] at he
    | scr _ => cases n <;> simp [D.plain] at he
    | tab _ _ _ => cases n <;> simp [D.plain] at he
  | dK _ _ _ => cases n <;> simp [D.plain] at hd
  | dT _ _ _ => cases n <;> simp [D.plain] at hd
  | obj _ _ => cases n <;> simp [D.plain] at hd
  | scr _ => cases n <;> simp [D.plain] at hd
  | tab _ _ _ => cases n <;> simp [D.plain] at hd
end

/-! ### things that need not be plain throughout -/
theorem cmp_cases {n : Nat} {d e : D} (h : cmpble n d e = true) : (d.plain n = true ∧ e.plain n = true) ∨ (∃ m xs ys, n = m + 1 ∧ d = .tup xs ∧ e = .tup ys ∧ cmpbles m xs ys = true) ∨ ∃ m xs ys, n = m + 1 ∧ d = .lst xs ∧ e = .lst ys ∧ (xs.length ≠ ys.length ∨ cmpbles m xs ys = true) := by
  unfold cmpble at h
  split at h
  · exact .inr (.inl ⟨_, _, _, rfl, rfl, rfl, h⟩)
  · refine .inr (.inr ⟨_, _, _, rfl, rfl, rfl, ?_⟩)
    rw [Bool.or_eq_true] at h
    exact h.imp (fun z => by simpa using z) id
  · rw [Bool.and_eq_true] at h
    exact .inl h
section
variable {C : Ct} {H : Hp}
theorem sames_of {n : Nat} (ih : ∀ {d e : D} {v : V}, Rep C H d v → Rep C H e v → cmpble n d e = true → PyData.eqv d.py e.py = true) : ∀ {ds es : List D} {vs : List V}, Reps C H ds vs → Reps C H es vs → cmpbles n ds es = true → PyData.eqvAll (D.pys ds) (D.pys es) = true
  | _, _, _, .nil, h, _ => by cases h; rfl
  | d :: ds, _, _, .cons a b, h, hc => by
    cases h with
    | cons a' b' =>
      simp only [cmpbles, Bool.and_eq_true] at hc
      simp only [D.pys, PyData.eqvAll, Bool.and_eq_true]
      exact ⟨ih a a' hc.1, sames_of ih b b' hc.2⟩
theorem same_eqv : ∀ (n : Nat) {d e : D} {v : V}, Rep C H d v → Rep C H e v → cmpble n d e = true → PyData.eqv d.py e.py = true := by
  intro n
  induction n with
  | zero =>
    intro d e v r1 r2 h
    rcases cmp_cases h with ⟨h1, h2⟩ | ⟨m, _, _, z, _⟩ | ⟨m, _, _, z, _⟩
    · have := Rep.same r1 r2 h1 h2
      subst this
      exact eqv_self _ d h1
    · omega
    · omega
  | succ n ih =>
    intro d e v r1 r2 h
    rcases cmp_cases h with ⟨h1, h2⟩ | ⟨m, xs, ys, z, rfl, rfl, hc⟩ | ⟨m, xs, ys, z, rfl, rfl, hc⟩
    · have := Rep.same r1 r2 h1 h2
      subst this
      exact eqv_self _ d h1
    · have : m = n := by omega
      subst this
      cases r1 with
      | tup g1 q1 =>
        cases r2 with
        | tup g2 q2 =>
          rw [g1] at g2
          cases g2
          simp only [D.py, PyData.eqv]
          exact sames_of (fun a b c => ih a b c) q1 q2 hc
    · have : m = n := by omega
      subst this
      cases r1 with
      | lst g1 q1 =>
        cases r2 with
        | lst g2 q2 =>
          rw [g1] at g2
          cases g2
          simp only [D.py, PyData.eqv]
          rcases hc with hc | hc
          · exact (hc (by rw [Reps.length q1, Reps.length q2])).elim
          · exact sames_of (fun a b c => ih a b c) q1 q2 hc
end
section
variable {P : Program} {w : World} {C : Ct} {H : Hp} {s : Shared}
def PartsC (C : Ct) (H : Hp) (s : Shared) (n : Nat) : Prop := ∀ (d e : D) (A : Around) (x y : V) (u v : Value), cmpble n d e = true → Rep C H d x → Rep C H e y → RelV x u → RelV y v → A.units + n < cLine →
  EqAt A s u v (PyData.eqv d.py e.py)
theorem cmpbles_get : ∀ {n : Nat} {ds es : List D} {j : Nat} {d e : D}, cmpbles n ds es = true → ds[j]? = some d → es[j]? = some e → cmpble n d e = true
  | _, [], _, _, _, _, _, h, _ => by simp at h
  | _, _ :: _, [], _, _, _, _, _, h => by simp at h
  | n, x :: xs, y :: ys, 0, _, _, h, h1, h2 => by
    simp at h1 h2
    subst h1; subst h2
    simp only [cmpbles, Bool.and_eq_true] at h
    exact h.1
  | n, x :: xs, y :: ys, j + 1, _, _, h, h1, h2 => by
    simp only [cmpbles, Bool.and_eq_true] at h
    exact cmpbles_get h.2 (by simpa using h1) (by simpa using h2)
theorem parts_ofC {n : Nat} (ih : PartsC C H s n) {A : Around} {ds es : List D} {vs ws : List V} {us zs : List Value} (hc : cmpbles n ds es = true) (r1 : Reps C H ds vs) (r2 : Reps C H es ws) (q1 : Vals vs us) (q2 : Vals ws zs)
    (hu : A.units + n < cLine) : ∀ j (h1 : j < us.toArray.size) (h2 : j < zs.toArray.size), EqAt A s us.toArray[j] zs.toArray[j] (pairEq (D.pys ds) (D.pys es) j) := fun j h1 h2 => by
  have h1' : j < us.length := by simpa using h1
  have h2' : j < zs.length := by simpa using h2
  have l1 : j < vs.length := by rw [q1.length]; exact h1'
  have l2 : j < ws.length := by rw [q2.length]; exact h2'
  obtain ⟨a, ea, ra⟩ := Reps.getV r1 (List.getElem?_eq_getElem l1)
  obtain ⟨b, eb, rb⟩ := Reps.getV r2 (List.getElem?_eq_getElem l2)
  obtain ⟨u, eu, ru⟩ := q1.get (List.getElem?_eq_getElem l1)
  obtain ⟨z, ez, rz⟩ := q2.get (List.getElem?_eq_getElem l2)
  have e1 : us.toArray[j] = u := by
    have : us[j]? = some us.toArray[j] := by simp [h1']
    rw [eu] at this; exact (Option.some.inj this).symm
  have e2 : zs.toArray[j] = z := by
    have : zs[j]? = some zs.toArray[j] := by simp [h2']
    rw [ez] at this; exact (Option.some.inj this).symm
  have e3 : pairEq (D.pys ds) (D.pys es) j = PyData.eqv a.py b.py := by
    show PyData.eqv _ _ = _
    rw [pys_get, pys_get, List.getD_eq_getElem?_getD, List.getD_eq_getElem?_getD, ea, eb]
    rfl
  rw [e1, e2, e3]
  exact ih a b A _ _ u z (cmpbles_get hc ea eb) ra rb ru rz hu
theorem atom_eqC {A : Around} {d e : D} {x y : V} {u v : Value} {n : Nat} (hc : cmpble n d e = true) (rd : Rep C H d x) (re : Rep C H e y) (ru : RelV x u) (rv : RelV y v)
    (h : RcAt A s u v (PyData.eqv d.py e.py)) : EqAt A s u v (PyData.eqv d.py e.py) := fun prog w' E Q q => by
  unfold eqBool
  refine wpAny_holding ?_
  refine wpAny_ite_split (fun hab => ?_) (fun _ => ?_)
  rotate_left
  · cases u with
    | float b t =>
      have e0 : x = .flt b := ru.inj (show RelV (.flt b) (.float b t) from ⟨t, rfl⟩)
      subst e0
      cases rd
    | _ => exact wpAny_bind (h prog w' E _ (wpAny_truthy_bool q))
  have e1 := eq_of_beq hab
  subst e1
  have e2 : x = y := ru.inj rv
  subst e2
  rw [same_eqv n rd re hc] at q
  exact wpAny_bind (wpAny_rule (wpAny_pure q))
theorem rc_tupsC (ok : HOk P w H s.heap) {n : Nat} (ih : PartsC C H s n) {A : Around} {xs ys : List D} {x y : V} {u v : Value} (hc : cmpbles n xs ys = true) (rd : Rep C H (.tup xs) x) (re : Rep C H (.tup ys) y) (ru : RelV x u) (rv : RelV y v) (hu : A.units + (n + 1) < cLine) :
    RcAt A s u v (PyData.eqv (.tuple (D.pys xs)) (.tuple (D.pys ys))) ∧ RcNeAt A s u v (!PyData.eqv (.tuple (D.pys xs)) (.tuple (D.pys ys))) := by
  cases rd with
  | tup g1 r1 =>
    cases re with
    | tup g2 r2 =>
      cases ru; cases rv
      obtain ⟨us, q1, i1⟩ := tup_is ok g1
      obtain ⟨zs, q2, i2⟩ := tup_is ok g2
      have l1 : us.toArray.size = (D.pys xs).length := by rw [pys_length, Reps.length r1, q1.length]; simp
      have l2 : zs.toArray.size = (D.pys ys).length := by rw [pys_length, Reps.length r2, q2.length]; simp
      have h := RcAt.tuples (A := A) i1 i2 (by omega) (parts_ofC ih hc r1 r2 q1 q2 (by show A.units + 1 + n < cLine; omega))
      have h' := RcNeAt.tuples (A := A) i1 i2 (by omega) (parts_ofC ih hc r1 r2 q1 q2 (by show A.units + 1 + n < cLine; omega))
      have e := eqvAll_eq (D.pys xs) (D.pys ys)
      rw [l1, l2, e] at h h'
      exact ⟨by simpa only [PyData.eqv] using h, by simpa only [PyData.eqv] using h'⟩
theorem rc_lstsC (ok : HOk P w H s.heap) {n : Nat} (ih : PartsC C H s n) {A : Around} {xs ys : List D} {x y : V} {u v : Value} (hc : xs.length ≠ ys.length ∨ cmpbles n xs ys = true) (rd : Rep C H (.lst xs) x) (re : Rep C H (.lst ys) y) (ru : RelV x u) (rv : RelV y v) (hu : A.units + (n + 1) < cLine) :
    RcAt A s u v (PyData.eqv (.list (D.pys xs)) (.list (D.pys ys))) ∧ RcNeAt A s u v (!PyData.eqv (.list (D.pys xs)) (.list (D.pys ys))) := by
  cases rd with
  | lst g1 r1 =>
    cases re with
    | lst g2 r2 =>
      cases ru; cases rv
      obtain ⟨us, q1, i1⟩ := lst_is ok g1
      obtain ⟨zs, q2, i2⟩ := lst_is ok g2
      have l1 : us.toArray.size = (D.pys xs).length := by rw [pys_length, Reps.length r1, q1.length]; simp
      have l2 : zs.toArray.size = (D.pys ys).length := by rw [pys_length, Reps.length r2, q2.length]; simp
      by_cases hl : us.toArray.size = zs.toArray.size
      · have hc' : cmpbles n xs ys = true := by
          rcases hc with hc | hc
          · rw [pys_length] at l1 l2; omega
          · exact hc
        have h := RcAt.lists (A := A) i1 i2 hl (by omega) (parts_ofC ih hc' r1 r2 q1 q2 (by show A.units + 1 + n < cLine; omega))
        have h' := RcNeAt.lists (A := A) i1 i2 hl (by omega) (parts_ofC ih hc' r1 r2 q1 q2 (by show A.units + 1 + n < cLine; omega))
        have e : (List.range us.toArray.size).all (pairEq (D.pys xs) (D.pys ys)) = PyData.eqvAll (D.pys xs) (D.pys ys) := by
          rw [l1]
          exact eqvAll_same_length (by omega)
        rw [e] at h h'
        exact ⟨by simpa only [PyData.eqv] using h, by simpa only [PyData.eqv] using h'⟩
      · have h := RcAt.lists_lengths (A := A) i1 i2 (by simpa using hl) (by omega)
        have h' := RcNeAt.lists_lengths (A := A) i1 i2 (by simpa using hl) (by omega)
        have e : PyData.eqvAll (D.pys xs) (D.pys ys) = false := eqvAll_other_length (by omega)
        simp only [PyData.eqv, e]
        exact ⟨h, h'⟩
theorem partsC (ok : HOk P w H s.heap) : ∀ n, PartsC C H s n := by
  intro n
  induction n with
  | zero =>
    intro d e A x y u v hc rd re ru rv hu
    rcases cmp_cases hc with ⟨h1, h2⟩ | ⟨m, _, _, z, _⟩ | ⟨m, _, _, z, _⟩
    · exact parts_all ok 0 d e A x y u v h1 h2 rd re ru rv hu
    · omega
    · omega
  | succ n ih =>
    intro d e A x y u v hc rd re ru rv hu
    rcases cmp_cases hc with ⟨h1, h2⟩ | ⟨m, xs, ys, z, rfl, rfl, hc2⟩ | ⟨m, xs, ys, z, rfl, rfl, hc2⟩
    · exact parts_all ok _ d e A x y u v h1 h2 rd re ru rv hu
    · have : m = n := by omega
      subst this
      refine atom_eqC hc rd re ru rv ?_
      simp only [D.py]
      exact (rc_tupsC ok ih hc2 rd re ru rv hu).1
    · have : m = n := by omega
      subst this
      refine atom_eqC hc rd re ru rv ?_
      simp only [D.py]
      exact (rc_lstsC ok ih hc2 rd re ru rv hu).1
theorem rc_all (ok : HOk P w H s.heap) {n : Nat} {d e : D} {A : Around} {x y : V} {u v : Value} (hc : cmpble n d e = true) (rd : Rep C H d x) (re : Rep C H e y) (ru : RelV x u) (rv : RelV y v) (hu : A.units + n < cLine) : RcAt A s u v (PyData.eqv d.py e.py) ∧ RcNeAt A s u v (!PyData.eqv d.py e.py) := by
  rcases cmp_cases hc with ⟨h1, h2⟩ | ⟨m, xs, ys, z, rfl, rfl, hc2⟩ | ⟨m, xs, ys, z, rfl, rfl, hc2⟩
  · exact ⟨rc_at ok (fun m _ => parts_all ok m) d e A x y u v h1 h2 rd re ru rv hu, rn_at ok (fun m _ => parts_all ok m) d e A x y u v h1 h2 rd re ru rv hu⟩
  · subst z
    simp only [D.py]
    exact rc_tupsC ok (partsC ok m) hc2 rd re ru rv hu
  · subst z
    simp only [D.py]
    exact rc_lstsC ok (partsC ok m) hc2 rd re ru rv hu
end
/-- a == b -/
theorem op_eqT {X : Cx} {C : Ct} (hu : X.A.units + 64 < cLine) : OpR X (compareOp .Eq) (fun x y H Q => ∃ a b k, Rep C H a x ∧ Rep C H b y ∧ eqD a b = some k ∧ Q (.bl k) H) := by
  intro pins s σ H x y v u Q I rx ry ⟨a, b, k, ra, rb, e, q⟩
  unfold eqD at e
  split at e
  · rename_i hp
    cases e
    exact (rc_all (P := X.prog) (w := X.w) I.hok hp ra rb rx ry (by omega)).1 X.prog X.w X.xe _ ⟨.bl _, H, I, rfl, q⟩
  · cases e
/-- a != b -/
theorem op_neT {X : Cx} {C : Ct} (hu : X.A.units + 64 < cLine) : OpR X (compareOp .NotEq) (fun x y H Q => ∃ a b k, Rep C H a x ∧ Rep C H b y ∧ (eqD a b).map (! ·) = some k ∧ Q (.bl k) H) := by
  intro pins s σ H x y v u Q I rx ry ⟨a, b, k, ra, rb, e, q⟩
  unfold eqD at e
  split at e
  · rename_i hp
    cases e
    exact (rc_all (P := X.prog) (w := X.w) I.hok hp ra rb rx ry (by omega)).2 X.prog X.w X.xe _ ⟨.bl _, H, I, rfl, q⟩
  · cases e
end FJ

/-! Comparisons, items, slices, what is built in: by trees. -/
namespace FJ
open PySem L2 PySem.SeqAt

section
variable {C : Ct} {G H : Hp}
theorem Rep.inti {i : Int} {v : V} (r : Rep C H (.int i) v) : v = .int i := by cases r; rfl
theorem Rep.bli {i : Bool} {v : V} (r : Rep C H (.bl i) v) : v = .bl i := by cases r; rfl
theorem Rep.stri {i : Str} {v : V} (r : Rep C H (.str i) v) : v = .str i := by cases r; rfl
theorem Rep.nonv {v : V} (r : Rep C H .non v) : v = .non := by cases r; rfl
theorem Rep.us {d : D} {v : V} (r : Rep C G d v) : Us C G H d v := .inl r
theorem Same.rfl' : Same H H := Same.refl H
end

/-! ### in -/
noncomputable def eIn (C : Ct) (H : Hp) (n : Nat) (xp : PyData) (u : Value) : Bool := @decide (∃ d v, D.plain n d = true ∧ Rep C H d v ∧ RelV v u ∧ PyData.eqv d.py xp = true) (Classical.propDecidable _)
theorem eIn_of {C : Ct} {H : Hp} {n : Nat} {xp : PyData} {d : D} {v : V} {u : Value} (h : d.plain n = true) (r : Rep C H d v) (ru : RelV v u) : eIn C H n xp u = PyData.eqv d.py xp := by
  unfold eIn
  cases e : PyData.eqv d.py xp with
  | true => exact @decide_eq_true _ (Classical.propDecidable _) ⟨d, v, h, r, ru, e⟩
  | false =>
    refine @decide_eq_false _ (Classical.propDecidable _) fun ⟨d', v', h', r', ru', e'⟩ => ?_
    have ev := ru.inj ru'
    subst ev
    have ed := Rep.same r r' h h'
    subst ed
    rw [e] at e'; cases e'
theorem any_in {C : Ct} {H : Hp} {n : Nat} {xp : PyData} : ∀ {ds : List D} {vs : List V} {us : List Value}, D.plains n ds = true → Reps C H ds vs → Vals vs us → us.any (eIn C H n xp) = ds.any fun y => PyData.eqv y.py xp
  | _, _, _, _, .nil, .nil => rfl
  | d :: ds, _, _, h, .cons a b, .cons r t => by
    simp only [D.plains, Bool.and_eq_true] at h
    simp only [List.any_cons, any_in h.2 b t, eIn_of h.1 a r]
theorem all_in {P : Program} {w : World} {C : Ct} {H : Hp} {s : Shared} (ok : HOk P w H s.heap) {n : Nat} {A : Around} {d : D} {x : V} {v : Value} (hd : d.plain n = true) (rx : Rep C H d x) (ru : RelV x v) (hu : A.units + n < cLine) :
    ∀ {ds : List D} {vs : List V} {us : List Value}, D.plains n ds = true → Reps C H ds vs → Vals vs us → ∀ y, y ∈ us → EqAt A s y v (eIn C H n d.py y)
  | _, _, _, _, .nil, .nil, y, hy => by simp at hy
  | e :: ds, _, _, h, .cons a b, .cons r t, y, hy => by
    simp only [D.plains, Bool.and_eq_true] at h
    rcases List.mem_cons.mp hy with rfl | hy
    · rw [eIn_of h.1 a r]
      exact parts_all ok n e d A _ _ _ _ h.1 hd a rx r ru hu
    · exact all_in ok hd rx ru hu h.2 b t y hy
theorem str_one {a : Str} {c : Nat} (h : a.cps.toList = [c]) : a = ⟨#[c]⟩ := by
  cases a with
  | mk cps =>
    simp only at h
    congr 1
    rw [← Array.toArray_toList (xs := cps), h]
theorem mem_arr {us : List Value} {y : Value} (h : y ∈ us.toArray) : y ∈ us := by simpa using h

/-! ### keys -/
theorem keyF {C : Ct} {G : Hp} {d : D} {k : Key} {v : V} (h : keyOf d = some k) (r : Rep C G d v) : v = kV k := by
  cases d with
  | int i => cases h; cases r; rfl
  | str i => cases h; cases r; rfl
  | _ => cases h
theorem look2_is {κ : Type} [DecidableEq κ] {C : Ct} {G : Hp} {k : κ} : ∀ {ks : List κ} {ds : List D} {vs : List V}, Reps C G ds vs → (valV (ks.zip vs) k).isSome = (look2 k ks ds).isSome
  | [], _, _, _ => by simp [look2, valV]
  | _ :: _, _, _, .nil => by simp [look2, valV]
  | q :: ks, d1 :: ds, v1 :: vs, .cons r1 r2 => by
    have ih := look2_is (k := k) (ks := ks) r2
    unfold valV at ih ⊢
    simp only [look2]
    rw [List.zip_cons_cons, List.find?_cons]
    by_cases e : q = k
    · simp [e]
    · simp only [e, decide_false, if_false]
      exact ih
/-! ### comparisons -/
def rC (C : Ct) (o : Cop) : R2 := fun x y H Q => ∃ a b k, Rep C H a x ∧ Rep C H b y ∧ cmpD o a b = some k ∧ Q (.bl k) H
theorem op_cmp {X : Cx} {C : Ct} (hu : X.A.units + 64 < cLine ∧ X.K = C.K ∧ X.w = C.w) (o : CmpOp) : OpR X (compareOp o) (rC C (cmpOp o)) := by
  obtain ⟨hu, hK, hw⟩ := hu
  intro pins s σ H x y v u Q I rx ry ⟨a, b, k, ra, rb, e, q⟩
  cases o with
  | Eq => exact op_eqT hu pins s σ H x y v u Q I rx ry ⟨a, b, k, ra, rb, e, q⟩
  | NotEq => exact op_neT hu pins s σ H x y v u Q I rx ry ⟨a, b, k, ra, rb, e, q⟩
  | Lt =>
    cases a with
    | int i =>
      cases b with
      | int j => cases ra.inti; cases rb.inti; cases e; exact op_lt pins s σ H _ _ v u Q I rx ry ⟨i, j, rfl, rfl, q⟩
      | _ => cases e
    | _ => cases e
  | LtE =>
    cases a with
    | int i =>
      cases b with
      | int j => cases ra.inti; cases rb.inti; cases e; exact op_le pins s σ H _ _ v u Q I rx ry ⟨i, j, rfl, rfl, q⟩
      | _ => cases e
    | _ => cases e
  | Gt =>
    cases a with
    | int i =>
      cases b with
      | int j => cases ra.inti; cases rb.inti; cases e; exact op_gt pins s σ H _ _ v u Q I rx ry ⟨i, j, rfl, rfl, q⟩
      | _ => cases e
    | _ => cases e
  | GtE =>
    cases a with
    | int i =>
      cases b with
      | int j => cases ra.inti; cases rb.inti; cases e; exact op_ge pins s σ H _ _ v u Q I rx ry ⟨i, j, rfl, rfl, q⟩
      | _ => cases e
    | _ => cases e
  | Is =>
    cases b with
    | non =>
      cases rb.nonv
      have ek : some (decide (x = V.non)) = some k := by
        rw [← e]
        cases ra <;> simp [cmpOp, cmpD]
      cases ek
      exact op_isN pins s σ H _ _ v u Q I rx ry ⟨rfl, q⟩
    | bl j =>
      cases rb.bli
      cases a with
      | bl i =>
        cases ra.bli
        cases e
        cases rx; cases ry
        exact PySem.wpAny_is_plain rfl ⟨.bl _, H, I, by cases i <;> cases j <;> rfl, q⟩
      | non =>
        cases ra.nonv
        cases e
        cases rx; cases ry
        exact PySem.wpAny_is_plain rfl ⟨.bl _, H, I, rfl, q⟩
      | _ => cases e
    | _ => cases a <;> cases e
  | IsNot =>
    cases b with
    | non =>
      cases rb.nonv
      have ek : some (!decide (x = V.non)) = some k := by
        rw [← e]
        cases ra <;> simp [cmpOp, cmpD]
      cases ek
      exact op_notN pins s σ H _ _ v u Q I rx ry ⟨rfl, q⟩
    | bl j =>
      cases rb.bli
      cases a with
      | bl i =>
        cases ra.bli
        cases e
        cases rx; cases ry
        exact PySem.wpAny_isNot_plain rfl ⟨.bl _, H, I, by cases i <;> cases j <;> rfl, q⟩
      | non =>
        cases ra.nonv
        cases e
        cases rx; cases ry
        exact PySem.wpAny_isNot_plain rfl ⟨.bl _, H, I, rfl, q⟩
      | _ => cases e
    | _ => cases a <;> cases e
  | In =>
    cases b with
    | str z =>
      cases rb.stri
      cases a with
      | str y0 =>
        cases ra.stri
        simp only [cmpOp, cmpD, inD] at e
        split at e
        · rename_i c hc
          cases e
          cases str_one hc
          exact op_in_sign pins s σ H _ _ v u Q I rx ry ⟨c, z, rfl, rfl, q⟩
        · cases e
      | _ => cases e
    | lst ds =>
      have e' : (if a.plain 59 && D.plains 59 ds then some (ds.any fun y => PyData.eqv y.py a.py) else none) = some k := by
        cases a <;> exact e
      split at e'
      · rename_i hp
        cases e'
        rw [Bool.and_eq_true] at hp
        cases rb with
        | lst h r =>
          cases ry
          obtain ⟨its, q1, il⟩ := lst_is I.hok h
          refine in_listAt (eIn C H 59 a.py) il (fun y hy => all_in I.hok hp.1 ra rx (by show X.A.units + 1 + 59 < cLine; omega) hp.2 r q1 y (mem_arr hy)) ⟨.bl _, H, I, ?_, q⟩
          show Value.bool _ = Value.bool _
          congr 1
          rw [List.any_toArray]
          exact any_in hp.2 r q1
      · cases e'
    | tup ds =>
      have e' : (if a.plain 59 && D.plains 59 ds then some (ds.any fun y => PyData.eqv y.py a.py) else none) = some k := by
        cases a <;> exact e
      split at e'
      · rename_i hp
        cases e'
        rw [Bool.and_eq_true] at hp
        cases rb with
        | tup h r =>
          cases ry
          obtain ⟨its, q1, il⟩ := tup_is I.hok h
          refine in_tupleAt (eIn C H 59 a.py) il (fun y hy => all_in I.hok hp.1 ra rx (by show X.A.units + 1 + 59 < cLine; omega) hp.2 r q1 y (mem_arr hy)) ⟨.bl _, H, I, ?_, q⟩
          show Value.bool _ = Value.bool _
          congr 1
          rw [List.any_toArray]
          exact any_in hp.2 r q1
      · cases e'
    | dK ks ds =>
      have e' : (keyOf a).map (fun q => (look2 q ks ds).isSome) = some k := by
        cases a <;> exact e
      cases hk : keyOf a with
      | none => rw [hk] at e'; cases e'
      | some kk =>
        rw [hk] at e'
        cases e'
        cases rb with
        | dK h l r =>
          cases ry
          refine d_in (by omega) I (.inl ⟨_, kk, .inl h, keyF hk ra, rfl⟩) rx fun s' I' => ⟨.bl _, H, I', ?_, q⟩
          show Value.bool _ = Value.bool _
          rw [look2_is r]
    | tab ks ds ms =>
      cases a with
      | str y0 =>
        cases ra.stri
        simp only [cmpOp, cmpD, inD] at e
        cases rb with
        | @tab p _ _ vs ds z low h1 h2 rs =>
          split at e
          · rename_i hc
            cases e
            have hm : y0 ∈ ks := by simpa using hc
            obtain ⟨i, hi, hk⟩ := List.mem_iff_getElem.mp hm
            obtain ⟨v0, _, es, n, u0, q1, q2, q3, q4⟩ := h1 i y0 (by rw [List.getElem?_eq_getElem hi, hk])
            rw [← hK] at q1 q3
            rw [← hw] at q2
            exact op_in_kd (D := ⟨q1, q2, low⟩) pins s σ H _ _ v u Q I rx ry ⟨y0, _, rfl, rfl, q3, q⟩
          · split at e
            · rename_i hc
              cases e
              obtain ⟨es, n, q1, q2, _, q3⟩ := h2 y0 (by simpa using hc)
              rw [← hK] at q1 q3
              rw [← hw] at q2
              exact op_in_kd (D := ⟨q1, q2, low⟩) pins s σ H _ _ v u Q I rx ry ⟨y0, _, rfl, rfl, q3, q⟩
            · cases e
      | _ => cases e
    | _ => cases a <;> cases e
  | NotIn =>
    cases b with
    | str z =>
      cases rb.stri
      cases a with
      | str y0 =>
        cases ra.stri
        simp only [cmpOp, cmpD, inD] at e
        split at e
        · rename_i c hc
          cases e
          cases str_one hc
          exact op_notIn_sign pins s σ H _ _ v u Q I rx ry ⟨c, z, rfl, rfl, q⟩
        · cases e
      | _ => cases e
    | lst ds =>
      have e' : (if a.plain 59 && D.plains 59 ds then some (ds.any fun y => PyData.eqv y.py a.py) else none).map (! ·) = some k := by
        cases a <;> exact e
      split at e'
      · rename_i hp
        cases e'
        rw [Bool.and_eq_true] at hp
        cases rb with
        | lst h r =>
          cases ry
          obtain ⟨its, q1, il⟩ := lst_is I.hok h
          refine notIn_listAt (eIn C H 59 a.py) il (fun y hy => all_in I.hok hp.1 ra rx (by show X.A.units + 1 + 59 < cLine; omega) hp.2 r q1 y (mem_arr hy)) ⟨.bl _, H, I, ?_, q⟩
          show Value.bool _ = Value.bool _
          congr 2
          rw [List.any_toArray]
          exact any_in hp.2 r q1
      · cases e'
    | tup ds =>
      have e' : (if a.plain 59 && D.plains 59 ds then some (ds.any fun y => PyData.eqv y.py a.py) else none).map (! ·) = some k := by
        cases a <;> exact e
      split at e'
      · rename_i hp
        cases e'
        rw [Bool.and_eq_true] at hp
        cases rb with
        | tup h r =>
          cases ry
          obtain ⟨its, q1, il⟩ := tup_is I.hok h
          refine notIn_tupleAt (eIn C H 59 a.py) il (fun y hy => all_in I.hok hp.1 ra rx (by show X.A.units + 1 + 59 < cLine; omega) hp.2 r q1 y (mem_arr hy)) ⟨.bl _, H, I, ?_, q⟩
          show Value.bool _ = Value.bool _
          congr 2
          rw [List.any_toArray]
          exact any_in hp.2 r q1
      · cases e'
    | dK ks ds =>
      have e' : ((keyOf a).map (fun q => (look2 q ks ds).isSome)).map (! ·) = some k := by
        cases a <;> exact e
      cases hk : keyOf a with
      | none => rw [hk] at e'; cases e'
      | some kk =>
        rw [hk] at e'
        cases e'
        cases rb with
        | dK h l r =>
          cases ry
          refine d_notIn (by omega) I (.inl ⟨_, kk, .inl h, keyF hk ra, rfl⟩) rx fun s' I' => ⟨.bl _, H, I', ?_, q⟩
          show Value.bool _ = Value.bool _
          rw [look2_is r]
    | tab ks ds ms =>
      cases a with
      | str y0 =>
        cases ra.stri
        simp only [cmpOp, cmpD, inD] at e
        cases rb with
        | @tab p _ _ vs ds z low h1 h2 rs =>
          split at e
          · rename_i hc
            cases e
            have hm : y0 ∈ ks := by simpa using hc
            obtain ⟨i, hi, hk⟩ := List.mem_iff_getElem.mp hm
            obtain ⟨v0, _, es, n, u0, q1, q2, q3, q4⟩ := h1 i y0 (by rw [List.getElem?_eq_getElem hi, hk])
            rw [← hK] at q1 q3
            rw [← hw] at q2
            exact op_notIn_kd (D := ⟨q1, q2, low⟩) pins s σ H _ _ v u Q I rx ry ⟨y0, _, rfl, rfl, q3, q⟩
          · split at e
            · rename_i hc
              cases e
              obtain ⟨es, n, q1, q2, _, q3⟩ := h2 y0 (by simpa using hc)
              rw [← hK] at q1 q3
              rw [← hw] at q2
              exact op_notIn_kd (D := ⟨q1, q2, low⟩) pins s σ H _ _ v u Q I rx ry ⟨y0, _, rfl, rfl, q3, q⟩
            · cases e
      | _ => cases e
    | _ => cases a <;> cases e

/-! ### slices -/
def rSl (C : Ct) : V → Option Int → Option Int → Hp → VK → Prop := fun x lo hi H Q => ∃ G a t, Same G H ∧ Us C G H a x ∧ sliD a lo hi = some t ∧ Alc C G H t Q
theorem cut_reps {C : Ct} {G : Hp} {ds : List D} {vs : List V} (r : Reps C G ds vs) (lo hi : Option Int) : Reps C G (cut ds lo hi) (cutV vs lo hi) := by
  unfold cut cutV
  rw [Reps.length r]
  exact Reps.take _ (Reps.drop _ r)
theorem ints_reps {C : Ct} {G : Hp} : ∀ ns : List Int, Reps C G (ns.map .int) (ns.map V.int)
  | [] => .nil
  | _ :: r => .cons .int (ints_reps r)
theorem cut_map {α β : Type} (f : α → β) (xs : List α) (lo hi : Option Int) : cut (xs.map f) lo hi = (cut xs lo hi).map f := by
  unfold cut
  rw [List.length_map, ← List.map_drop, ← List.map_take]
theorem sl_any {X : Cx} {C : Ct} (hK : X.K = C.K) : SlR X (rSl C) := by
  intro pins s σ H x v vl vu lo hi sl Q I rx hs pl pu ⟨G, a, t, gh, ux, e, k⟩
  cases a with
  | lst ds =>
    cases e
    obtain ⟨p, vs, rfl, h, r⟩ := ux.lst gh
    exact sl_list pins s σ H _ v vl vu lo hi sl Q I rx hs pl pu ⟨p, vs, rfl, SqL.of h, fun q hq => k.own gh hq (.lst (cut_reps r lo hi))⟩
  | scr ns =>
    cases e
    obtain ⟨p, rfl, h⟩ := ux.scr gh
    rw [← hK] at h
    refine sl_list pins s σ H _ v vl vu lo hi sl Q I rx hs pl pu ⟨p, _, rfl, h, fun q hq => k.own gh hq (.lst ?_)⟩
    have := cut_reps (C := C) (G := G) (ints_reps ns) lo hi
    rw [cut_map] at this
    exact this
  | tup ds =>
    cases e
    obtain ⟨p, vs, rfl, h, g, r⟩ := ux.tup gh
    refine sl_tupA pins s σ H _ v vl vu lo hi sl Q I rx hs pl pu ⟨p, vs, rfl, SqT.of h, fun ⟨e1, e2⟩ => ?_, fun _ q hq => k.tup gh hq (cut_reps r lo hi)⟩
    have ec : cut ds lo hi = ds := by
      unfold cut
      rw [Reps.length r, e1, e2, List.drop_zero, Nat.sub_zero, ← Reps.length r, List.take_length]
    rw [ec] at k
    exact k.fr gh (.tup g r)
  | str z =>
    simp only [sliD] at e
    split at e
    · cases e
      cases ux.str
      exact sl_str pins s σ H _ v vl vu lo hi sl Q I rx hs pl pu ⟨z, rfl, by assumption, k.fr gh .str⟩
    · cases e
  | _ => cases e

/-! ### built in -/
def rBi (C : Ct) (f : BI) : List V → Hp → VK → Prop := fun vs H Q => ∃ G ds t, Same G H ∧ Paired (Us C G H) ds vs ∧ biD f ds = some t ∧ Alc C G H t Q
def idB : BI → String
  | .len => "len" | .sum => "sum" | .all => "all" | .any => "any" | .max => "max" | .min => "min" | .divmod => "divmod" | .sorted => "sorted" | _ => "?"
def idT : BI → String
  | .list => "list" | .tuple => "tuple" | .int => "int" | .str => "str" | .dict => "dict" | _ => "?"
theorem one_of {C : Ct} {G H : Hp} {d : D} {vs : List V} (h : Paired (Us C G H) [d] vs) : ∃ v, vs = [v] ∧ Us C G H d v := by
  cases h with
  | cons a b => cases b; exact ⟨_, rfl, a⟩
theorem two_of {C : Ct} {G H : Hp} {d e : D} {vs : List V} (h : Paired (Us C G H) [d, e] vs) : ∃ v u, vs = [v, u] ∧ Us C G H d v ∧ Us C G H e u := by
  cases h with
  | cons a b =>
    cases b with
    | cons c d => cases d; exact ⟨_, _, rfl, a, c⟩
theorem ints_of {C : Ct} {G : Hp} : ∀ {ds : List D} {vs : List V} {ns : List Int}, Reps C G ds vs → intsOf ds = some ns → vs = ns.map V.int
  | [], _, _, .nil, e => by cases e; rfl
  | d :: ds, _, ns, .cons a b, e => by
    cases d with
    | int i =>
      simp only [intsOf] at e
      cases h : intsOf ds with
      | none => rw [h] at e; cases e
      | some ms => rw [h] at e; cases e; rw [ints_of b h, a.inti]; rfl
    | _ => cases e
theorem bls_of {C : Ct} {G : Hp} : ∀ {ds : List D} {vs : List V} {ns : List Bool}, Reps C G ds vs → blsOf ds = some ns → vs = ns.map V.bl
  | [], _, _, .nil, e => by cases e; rfl
  | d :: ds, _, ns, .cons a b, e => by
    cases d with
    | bl i =>
      simp only [blsOf] at e
      cases h : blsOf ds with
      | none => rw [h] at e; cases e
      | some ms => rw [h] at e; cases e; rw [bls_of b h, a.bli]; rfl
    | _ => cases e
theorem call_bi {X : Cx} {C : Ct} (hK : X.K = C.K) (hc : X.calm = true) {f : BI} (hf : f = .len ∨ f = .sum ∨ f = .all ∨ f = .any ∨ f = .max ∨ f = .min ∨ f = .divmod) : CallR X (.builtin (idB f)) (rBi C f) := by
  intro pins s σ H vs us Q I r ⟨G, ds, t, gh, ps, e, k⟩
  rcases hf with rfl | rfl | rfl | rfl | rfl | rfl | rfl
  · -- len
    cases ds with
    | nil => cases e
    | cons d ds =>
      cases ds with
      | nil =>
        obtain ⟨v, rfl, uv⟩ := one_of ps
        cases d with
        | scr ns =>
          cases e
          obtain ⟨p, rfl, h⟩ := uv.scr gh
          rw [← hK] at h
          have := call_len_seq pins s σ H _ us Q I r ⟨p, _, rfl, .inl h, by rw [List.length_map]; exact k.fr gh .int⟩
          exact this
        | lst xs =>
          cases e
          obtain ⟨p, ws, rfl, h, rr⟩ := uv.lst gh
          exact call_len_seq pins s σ H _ us Q I r ⟨p, ws, rfl, .inl (SqL.of h), by rw [← Reps.length rr]; exact k.fr gh .int⟩
        | tup xs =>
          cases e
          obtain ⟨p, ws, rfl, h, g, rr⟩ := uv.tup gh
          exact call_len_seq pins s σ H _ us Q I r ⟨p, ws, rfl, .inr (SqT.of h), by rw [← Reps.length rr]; exact k.fr gh .int⟩
        | str z =>
          simp only [biD] at e
          split at e
          · cases e
            cases uv.str
            exact call_len_str pins s σ H _ us Q I r ⟨z, rfl, by assumption, k.fr gh .int⟩
          · cases e
        | dK ks xs =>
          cases e
          obtain ⟨p, ws, rfl, h, l, rr⟩ := uv.dK gh
          refine call_lenD pins s σ H _ us Q I r ⟨p, _, rfl, h, ?_⟩
          rw [List.length_zip, l, ← Reps.length rr, Nat.min_self]
          exact k.fr gh .int
        | dT ks xs =>
          cases e
          obtain ⟨p, ws, rfl, h, l, rr⟩ := uv.dT gh
          refine call_len_dT pins s σ H _ us Q I r ⟨p, _, rfl, h, ?_⟩
          rw [List.length_zip, l, ← Reps.length rr, Nat.min_self]
          exact k.fr gh .int
        | _ => cases e
      | cons _ _ => cases d <;> cases e
  · -- sum
    cases ds with
    | nil => cases e
    | cons d ds =>
      cases ds with
      | nil =>
        obtain ⟨v, rfl, uv⟩ := one_of ps
        cases d with
        | lst xs =>
          simp only [biD] at e
          cases hn : intsOf xs with
          | none => rw [hn] at e; cases e
          | some ns =>
            rw [hn] at e
            cases e
            obtain ⟨p, ws, rfl, h, rr⟩ := uv.lst gh
            rw [ints_of rr hn] at h
            exact cr_sum hc pins s σ H _ us Q I r ⟨p, ns, rfl, SqL.of h, k.fr gh .int⟩
        | _ => cases e
      | cons _ _ => cases d <;> cases e
  · -- all
    cases ds with
    | nil => cases e
    | cons d ds =>
      cases ds with
      | nil =>
        obtain ⟨v, rfl, uv⟩ := one_of ps
        cases d with
        | lst xs =>
          simp only [biD] at e
          cases hn : blsOf xs with
          | none => rw [hn] at e; cases e
          | some ns =>
            rw [hn] at e
            cases e
            obtain ⟨p, ws, rfl, h, rr⟩ := uv.lst gh
            rw [bls_of rr hn] at h
            exact cr_all hc pins s σ H _ us Q I r ⟨p, ns, rfl, SqL.of h, k.fr gh .bl⟩
        | _ => cases e
      | cons _ _ => cases d <;> cases e
  · -- any
    cases ds with
    | nil => cases e
    | cons d ds =>
      cases ds with
      | nil =>
        obtain ⟨v, rfl, uv⟩ := one_of ps
        cases d with
        | lst xs =>
          simp only [biD] at e
          cases hn : blsOf xs with
          | none => rw [hn] at e; cases e
          | some ns =>
            rw [hn] at e
            cases e
            obtain ⟨p, ws, rfl, h, rr⟩ := uv.lst gh
            rw [bls_of rr hn] at h
            exact cr_any hc pins s σ H _ us Q I r ⟨p, ns, rfl, SqL.of h, k.fr gh .bl⟩
        | _ => cases e
      | cons _ _ => cases d <;> cases e
  · -- max
    cases ds with
    | nil => cases e
    | cons d ds =>
      cases ds with
      | nil => cases d <;> cases e
      | cons d2 ds =>
        cases ds with
        | cons _ _ => cases d <;> cases d2 <;> cases e
        | nil =>
          obtain ⟨v, u, rfl, uv, uu⟩ := two_of ps
          cases d with
          | int i =>
            cases d2 with
            | int j =>
              cases e
              cases uv.int; cases uu.int
              exact call_max2 hc pins s σ H _ us Q I r ⟨i, j, rfl, k.fr gh .int⟩
            | _ => cases e
          | _ => cases d2 <;> cases e
  · -- min
    cases ds with
    | nil => cases e
    | cons d ds =>
      cases ds with
      | nil => cases d <;> cases e
      | cons d2 ds =>
        cases ds with
        | cons _ _ => cases d <;> cases d2 <;> cases e
        | nil =>
          obtain ⟨v, u, rfl, uv, uu⟩ := two_of ps
          cases d with
          | int i =>
            cases d2 with
            | int j =>
              cases e
              cases uv.int; cases uu.int
              exact call_min2 hc pins s σ H _ us Q I r ⟨i, j, rfl, k.fr gh .int⟩
            | _ => cases e
          | _ => cases d2 <;> cases e
  · -- divmod
    cases ds with
    | nil => cases e
    | cons d ds =>
      cases ds with
      | nil => cases d <;> cases e
      | cons d2 ds =>
        cases ds with
        | cons _ _ => cases d <;> cases d2 <;> cases e
        | nil =>
          obtain ⟨v, u, rfl, uv, uu⟩ := two_of ps
          cases d with
          | int i =>
            cases d2 with
            | int j =>
              simp only [biD] at e
              split at e
              · rename_i hd
                cases e
                cases uv.int; cases uu.int
                exact call_divmod pins s σ H _ us Q I r ⟨i, j, rfl, hd, fun p hp => k.tup gh hp (.cons .int (.cons .int .nil))⟩
              · cases e
            | _ => cases e
          | _ => cases d2 <;> cases e
theorem call_bt {X : Cx} {C : Ct} (hc : X.calm = true) {f : BI} (hf : f = .list ∨ f = .tuple ∨ f = .int) : CallR X (.type (idT f)) (rBi C f) := by
  intro pins s σ H vs us Q I r ⟨G, ds, t, gh, ps, e, k⟩
  cases ds with
  | nil => rcases hf with rfl | rfl | rfl <;> cases e
  | cons d ds =>
    cases ds with
    | cons _ _ => rcases hf with rfl | rfl | rfl <;> cases d <;> cases e
    | nil =>
      obtain ⟨v, rfl, uv⟩ := one_of ps
      rcases hf with rfl | rfl | rfl
      · cases d with
        | lst xs =>
          cases e
          obtain ⟨p, ws, rfl, h, rr⟩ := uv.lst gh
          exact call_list_of pins s σ H _ us Q I r ⟨p, ws, rfl, .inl (SqL.of h), fun l hl => k.own gh hl (.lst rr)⟩
        | tup xs =>
          cases e
          obtain ⟨p, ws, rfl, h, g, rr⟩ := uv.tup gh
          exact call_list_of pins s σ H _ us Q I r ⟨p, ws, rfl, .inr (SqT.of h), fun l hl => k.own gh hl (.lst rr)⟩
        | _ => cases e
      · cases d with
        | lst xs =>
          cases e
          obtain ⟨p, ws, rfl, h, rr⟩ := uv.lst gh
          exact call_tuple_of pins s σ H _ us Q I r ⟨p, ws, rfl, .inl ⟨SqL.of h, fun l hl => k.tup gh hl rr⟩⟩
        | tup xs =>
          cases e
          obtain ⟨p, ws, rfl, h, g, rr⟩ := uv.tup gh
          exact call_tuple_of pins s σ H _ us Q I r ⟨p, ws, rfl, .inr ⟨SqT.of h, k.fr gh (.tup g rr)⟩⟩
        | _ => cases e
      · cases d with
        | int i =>
          cases e
          cases uv.int
          exact call_int1 pins s σ H _ us Q I r (.inl ⟨i, rfl, k.fr gh .int⟩)
        | bl b =>
          cases e
          cases uv.bl
          exact call_int1 pins s σ H _ us Q I r (.inr ⟨b, rfl, k.fr gh .int⟩)
        | _ => cases e
/-! ### methods of what is built in -/
def rMt (C : Ct) (m : MT) : V → List V → Hp → VK → Prop := fun x vs H Q => ∃ G d ds t, Same G H ∧ Us C G H d x ∧ Paired (Us C G H) ds vs ∧ mtD m d ds = some t ∧ Alc C G H t Q
end FJ

/-! Each form of the small language. -/
namespace FJ
open PySem L2

section imp
variable {X : Cx}
theorem PE.imp {e : Expr} {t t' : TE} (h : PE X e t) (k : ∀ σ H Q, t' σ H Q → t σ H Q) : PE X e t' := ⟨fun pins s σ H Q I q => h.run pins s σ H Q I (k σ H Q q)⟩
theorem PT.imp {e : Expr} {t t' : TT} (h : PT X e t) (k : ∀ σ H Q, t' σ H Q → t σ H Q) : PT X e t' := ⟨fun pins s σ H Q I q => h.run pins s σ H Q I (k σ H Q q)⟩
theorem PW.imp {e : Expr} {t t' : TT} (h : PW X e t) (k : ∀ σ H Q, t' σ H Q → t σ H Q) : PW X e t' := ⟨fun w pins s σ H Q I q => h.run w pins s σ H Q I (k σ H Q q)⟩
theorem PA.imp {e : List Expr} {t t' : TA} (h : PA X e t) (k : ∀ σ H Q, t' σ H Q → t σ H Q) : PA X e t' := ⟨fun p pins s σ H Q I q => h.run p pins s σ H Q I (k σ H Q q)⟩
theorem PO.imp {e : Option Expr} {t t' : TO} (h : PO X e t) (k : ∀ σ H Q, t' σ H Q → t σ H Q) : PO X e t' := ⟨fun pins s σ H Q I q => h.run pins s σ H Q I (k σ H Q q)⟩
theorem PI.imp {tg e : Expr} {t t' : TI} (h : PI X tg e t) (k : ∀ σ H Q, t' σ H Q → t σ H Q) : PI X tg e t' := ⟨fun pins s σ H Q I q => h.run pins s σ H Q I (k σ H Q q)⟩
theorem PG.imp {e : Expr} {t t' : TG} (h : PG X e t) (k : ∀ v σ H Q, t' v σ H Q → t v σ H Q) : PG X e t' := ⟨fun pins s σ H v u Q I r q => h.run pins s σ H v u Q I r (k v σ H Q q)⟩
theorem PS.imp {e : Stmt} {t t' : TS} (h : PS X e t) (k : ∀ D σ H, t' D σ H → t D σ H) : PS X e t' := ⟨fun pins s σ H D I q => h.run pins s σ H D I (k D σ H q)⟩
theorem PSs.imp {e : List Stmt} {t t' : TS} (h : PSs X e t) (k : ∀ D σ H, t' D σ H → t D σ H) : PSs X e t' := ⟨fun pins s σ H D I q => h.run pins s σ H D I (k D σ H q)⟩
/-- one of two ways to read it -/
theorem PE.or' {e : Expr} {t t' : TE} (h : PE X e t) (h' : PE X e t') : PE X e (fun σ H Q => t σ H Q ∨ t' σ H Q) := ⟨fun pins s σ H Q I q => q.elim (h.run pins s σ H Q I) (h'.run pins s σ H Q I)⟩
theorem PI.or' {tg e : Expr} {t t' : TI} (h : PI X tg e t) (h' : PI X tg e t') : PI X tg e (fun σ H Q => t σ H Q ∨ t' σ H Q) := ⟨fun pins s σ H Q I q => q.elim (h.run pins s σ H Q I) (h'.run pins s σ H Q I)⟩
theorem PE.any {ι : Sort _} {e : Expr} {t : ι → TE} (h : ∀ i, PE X e (t i)) : PE X e (fun σ H Q => ∃ i, t i σ H Q) := ⟨fun pins s σ H Q I ⟨i, q⟩ => (h i).run pins s σ H Q I q⟩
end imp

section
variable {C : Ct} {G H G' H' : Hp} {P P' : Nat → Addr → Prop} {r r' : Env} {σ σ' : St} {A B : Addr → Prop} {x : Val} {v : V} {t : T} {d : D} {Q K : VK} {e : E}
theorem R.use_ok {p : Bool} {q : R} {k : D → Env → R} {y : Val} (h : q.use p k = .ok y r') : ∃ x r1, q = .ok x r1 ∧ k x.toD (useE p x r1) = .ok y r' := by
  cases q with
  | ok x r1 => exact ⟨x, r1, rfl, h⟩
  | stuck => cases h
theorem R.look_ok {p : Bool} {q : R} {k : D → Env → R} {y : Val} (h : q.look p k = .ok y r') : ∃ x r1, q = .ok x r1 ∧ k x.toD (lookE p x r1) = .ok y r' := by
  cases q with
  | ok x r1 => exact ⟨x, r1, rfl, h⟩
  | stuck => cases h
theorem R.tru_ok {q : R} {b : Bool} (h : q.tru = some (b, r')) : ∃ x r1, q = .ok x r1 ∧ truD x.toD = some b ∧ r' = lookE true x r1 := by
  cases q with
  | stuck => cases h
  | ok x r1 =>
    have h' : (match truD x.toD with | some b => some (b, lookE true x r1) | none => none) = some (b, r') := h
    cases ht : truD x.toD with
    | none => rw [ht] at h'; cases h'
    | some c =>
      rw [ht] at h'
      cases h'
      exact ⟨x, r1, rfl, ht, rfl⟩
theorem R.tru_of {x : Val} {b : Bool} (h : truD x.toD = some b) : (R.ok x r).tru = some (b, lookE true x r) := by
  unfold R.tru
  simp only [h]
theorem ofT_ok {o : Option T} {y : Val} (h : ofT o r = .ok y r') : ∃ t, o = some t ∧ y = .v t ∧ r' = r := by
  cases o with
  | none => cases h
  | some t => cases h; exact ⟨t, rfl, rfl, rfl⟩
theorem ofD_ok {o : Option D} {y : Val} (h : ofD o r = .ok y r') : ∃ t, o = some t ∧ y = .v (.fr t) ∧ r' = r := by
  cases o with
  | none => cases h
  | some t => cases h; exact ⟨t, rfl, rfl, rfl⟩
theorem andT {a b : Bool} (h : (a && b) = true) : a = true ∧ b = true := by simpa using h
/-- the end with a value that stands still -/
theorem Post.fr {G0 H0 : Hp} {P0 : Nat → Addr → Prop} {pu : Bool} (k : Post C G0 H0 P0 r σ pu (.v (.fr d)) Q) (st : Sst C G H P r σ) (s : Stp G0 H0 P0 G H P) (hp : pu = true → Same H0 H) (h : Rep C G d v) : Q v H :=
  k v G H P (fun _ => False) st s (Res.fr h) (fun _ z => z.elim) hp
theorem tE_settle (st : Sst C G H P r σ) (h : ev e r = .ok x r')
    (k : ∀ v G1 P1 H1, Sst C G1 H1 P1 (useE false x r') σ → Stp G H P G1 H1 P1 → Rep C G1 x.toD v → (e.pu = true → Same H H1) → K v H1) : tE C e σ H K :=
  tE_at st h fun v G' H' P' A st' s' res hA hp => by
    obtain ⟨G1, P1, st1, s1, rp⟩ := settle_ok st' s' res hA
    exact k v G1 P1 H' st1 s1 rp hp
theorem tE_use (p : Bool) (st : Sst C G H P r σ) (h : ev e r = .ok x r')
    (k : ∀ v G1 H1 P1, Sst C G1 H1 P1 (useE p x r') σ → Stp G H P G1 H1 P1 → (∀ G2 H2 P2, Stp G1 H1 P1 G2 H2 P2 → (p = true → Same H1 H2) → Us C G2 H2 x.toD v) → (e.pu = true → Same H H1) → K v H1) : tE C e σ H K :=
  tE_at st h fun v G' H' P' A st' s' res hA hp => by
    obtain ⟨G1, P1, st1, s1, u⟩ := use_ok p st' s' res hA
    exact k v G1 H' P1 st1 s1 u hp
theorem tE_look (p : Bool) (st : Sst C G H P r σ) (h : ev e r = .ok x r')
    (k : ∀ v G1 H1 P1, Sst C G1 H1 P1 (lookE p x r') σ → Stp G H P G1 H1 P1 → (∀ G2 H2 P2, Stp G1 H1 P1 G2 H2 P2 → Same G2 H2 → (p = true → Same H1 H2) → Rep C H2 x.toD v) → (e.pu = true → Same H H1) → K v H1) : tE C e σ H K :=
  tE_at st h fun v G' H' P' A st' s' res hA hp => by
    obtain ⟨G1, P1, st1, s1, u⟩ := look_ok p st' s' res hA
    exact k v G1 H' P1 st1 s1 u hp
end

theorem Post.step {C : Ct} {G H G1 H1 : Hp} {P P1 : Nat → Addr → Prop} {r' : Env} {σ : St} {q pq : Bool} {y : Val} {Q : VK} (k : Post C G H P r' σ pq y Q) (s1 : Stp G H P G1 H1 P1) (hs : pq = true → Same H H1) (hq : pq = true → q = true) : Post C G1 H1 P1 r' σ q y Q :=
  fun v G' H' P' A st' s' res hA hp => k v G' H' P' A st' (s1.trans s') res (fun a ha => (hA a ha).elim (fun ⟨j, hj⟩ => s1.pp j a hj) fun z => .inr (s1.ld a z)) fun h => (hs h).trans (hp (hq h))

/-! ### readings -/
def tT (C : Ct) (e : E) : TT := fun σ H Q => ∃ G P r b r', Sst C G H P r σ ∧ (ev e r).tru = some (b, r') ∧ ∀ G' H' P', Sst C G' H' P' r' σ → Stp G H P G' H' P' → (e.pu = true → Same H H') → Q b H'
def tEs (C : Ct) (es : Es) : TA := fun σ H Q => ∃ G P r ds r', Sst C G H P r σ ∧ evs es r = .ok ds r' ∧ ∀ vs G' H' P', Sst C G' H' P' r' σ → Stp G H P G' H' P' → Reps C G' ds vs → (es.pu = true → Same H H') → Q vs H'
def tEu (C : Ct) (es : Es) : TA := fun σ H Q => ∃ G P r ds r', Sst C G H P r σ ∧ evu es r = .ok ds r' ∧ ∀ vs G' H' P', Sst C G' H' P' r' σ → Stp G H P G' H' P' → Paired (Us C G' H') ds vs → (es.pu = true → Same H H') → Q vs H'
def tO (C : Ct) (e : Oe) : TO := fun σ H Q => ∃ G P r o r', Sst C G H P r σ ∧ evo e r = some (o, r') ∧ ∀ G' H' P', Sst C G' H' P' r' σ → Stp G H P G' H' P' → (e.pu = true → Same H H') → Q o H'

section
variable {X : Cx} {C : Ct} {a b c : Expr} {ea eb ec : E} {pos : Pos}
theorem ge_var {i : Nat} {x : Str} (hN : X.N[i]? = some x) (hv : Vis X.env.scope x) (hd : (x == ("__debug__" : Str)) = false) (hcd : (x == ("__classdict__" : Str)) = false) : PE X (.Name x pos) (tE C (.var i)) := by
  refine PE.imp (pe_var hN hv hd hcd) fun σ H Q ⟨G, P, r, y, r', st, e, k⟩ => ?_
  simp only [ev] at e
  split at e
  · rename_i d hd
    cases e
    obtain ⟨v, h1, h2⟩ := st.sl i _ hd
    refine ⟨v, h1, ?_⟩
    cases h2 with
    | fr rp n => exact k.fr st (Stp.refl ..) (fun _ => Same.refl _) rp
  · rename_i t _ ht
    cases e
    obtain ⟨v, h1, h2⟩ := st.sl i _ ht
    exact ⟨v, h1, k v G H P (fun _ => False) st (Stp.refl ..) ⟨fun _ z => z, _, h2, fun a h => h⟩ (fun _ z => z.elim) fun _ => Same.refl _⟩
  · cases e
theorem ge_cst {e : Expr} {d : D} {v : V} (h : PE X e (tC v)) (rp : ∀ σ H G P r, Sst C G H P r σ → Rep C G d v) : PE X e (tE C (.cst d)) := by
  refine PE.imp h fun σ H Q ⟨G, P, r, y, r', st, e, k⟩ => ?_
  simp only [ev] at e
  cases e
  exact k.fr st (Stp.refl ..) (fun _ => Same.refl _) (rp σ H G P r st)
theorem ge_neg (ha : PE X a (tE C ea)) : PE X (.UnaryOp .USub a pos) (tE C (.neg ea)) := by
  refine PE.imp (pe_un un_neg ha) fun σ H Q ⟨G, P, r, y, r', st, e, k⟩ => ?_
  simp only [ev] at e
  obtain ⟨x1, r1, h1, e⟩ := R.use_ok e
  refine tE_use true st h1 fun v1 G1 H1 P1 st1 s1 u1 p1 => ?_
  split at e
  · rename_i i hi
    cases e
    have u := u1 _ _ _ (Stp.refl ..) fun _ => Same.refl _
    rw [hi] at u
    cases u.int
    exact ⟨i, rfl, k.fr st1 s1 p1 .int⟩
  · cases e
theorem ge_bin (hK : X.K = C.K) {o : Bop} (ha : PE X a (tE C ea)) (hb : PE X b (tE C eb)) : PE X (.BinOp a (opOf o) b pos) (tE C (.bin o ea eb)) := by
  refine PE.imp (pe_op (op_bin hK o) ha hb) fun σ H Q ⟨G, P, r, y, r', st, e, k⟩ => ?_
  simp only [ev] at e
  obtain ⟨x1, r1, h1, e⟩ := R.use_ok e
  obtain ⟨x2, r2, h2, e⟩ := R.use_ok e
  obtain ⟨t, ht, rfl, rfl⟩ := ofT_ok e
  refine tE_use eb.pu st h1 fun v1 G1 H1 P1 st1 s1 u1 p1 => ?_
  refine tE_use true st1 h2 fun v2 G2 H2 P2 st2 s2 u2 p2 => ?_
  exact ⟨G2, _, _, t, st2.gh, u1 _ _ _ s2 p2, u2 _ _ _ (Stp.refl ..) fun _ => Same.refl _, ht, k.alc st2 (s1.trans s2) fun h => (p1 (andT h).1).trans (p2 (andT h).2)⟩
theorem cmp_read {o : Cop} {σ : St} {H : Hp} {Q : VK} (q : tE C (.cmp o ea eb) σ H Q) : tOp (rC C o) (tE C ea) (tE C eb) σ H Q := by
  obtain ⟨G, P, r, y, r', st, e, k⟩ := q
  simp only [ev] at e
  obtain ⟨x1, r1, h1, e⟩ := R.look_ok e
  obtain ⟨x2, r2, h2, e⟩ := R.look_ok e
  obtain ⟨t, ht, rfl, rfl⟩ := ofD_ok e
  refine tE_look eb.pu st h1 fun v1 G1 H1 P1 st1 s1 u1 p1 => ?_
  refine tE_look true st1 h2 fun v2 G2 H2 P2 st2 s2 u2 p2 => ?_
  cases hc : cmpD o x1.toD x2.toD with
  | none => rw [hc] at ht; cases ht
  | some b =>
    rw [hc] at ht
    cases ht
    exact ⟨_, _, b, u1 _ _ _ s2 st2.gh p2, u2 _ _ _ (Stp.refl ..) st2.gh fun _ => Same.refl _, hc, k.fr st2 (s1.trans s2) (fun h => (p1 (andT h).1).trans (p2 (andT h).2)) .bl⟩
theorem ge_cmp (hu : X.A.units + 64 < cLine ∧ X.K = C.K ∧ X.w = C.w) {o : CmpOp} (ha : PE X a (tE C ea)) (hb : PE X b (tE C eb)) (hm : behindInMarks o b = false) : PE X (.Compare a [o] [b] pos) (tE C (.cmp (cmpOp o) ea eb)) :=
  PE.imp (pe_cmpR (op_cmp (C := C) hu o) ha hb hm) fun σ H Q q => cmp_read q
theorem chain_read {o u : Cop} {σ : St} {H : Hp} {Q : VK} (q : tE C (.chain o u ea eb ec) σ H Q) : tChain (rC C o) (rC C u) (tE C ea) (tE C eb) (tE C ec) σ H Q := by
  obtain ⟨G, P, r, y, r', st, e, k⟩ := q
  simp only [ev] at e
  obtain ⟨x1, r1, h1, e⟩ := R.look_ok e
  obtain ⟨x2, r2, h2, e⟩ := R.look_ok e
  refine tE_look eb.pu st h1 fun v1 G1 H1 P1 st1 s1 u1 p1 => ?_
  refine tE_look ec.pu st1 h2 fun v2 G2 H2 P2 st2 s2 u2 p2 => ?_
  cases hc : cmpD o x1.toD x2.toD with
  | none => rw [hc] at e; cases e
  | some b =>
    rw [hc] at e
    refine ⟨_, _, b, u1 _ _ _ s2 st2.gh p2, u2 _ _ _ (Stp.refl ..) st2.gh fun _ => Same.refl _, hc, b, rfl, ?_⟩
    cases b with
    | false =>
      cases e
      exact k.fr st2 (s1.trans s2) (fun h => (p1 (andT h).1).trans (p2 (andT (andT h).2).1)) .bl
    | true =>
      obtain ⟨x3, r3, h3, e⟩ := R.look_ok e
      obtain ⟨t, ht, rfl, rfl⟩ := ofD_ok e
      show tE C ec σ H2 _
      refine tE_look true st2 h3 fun v3 G3 H3 P3 st3 s3 u3 p3 => ?_
      cases hc3 : cmpD u x2.toD x3.toD with
      | none => rw [hc3] at ht; cases ht
      | some b =>
        rw [hc3] at ht
        cases ht
        exact ⟨_, _, b, u2 _ _ _ s3 st3.gh p3, u3 _ _ _ (Stp.refl ..) st3.gh fun _ => Same.refl _, hc3, k.fr st3 ((s1.trans s2).trans s3) (fun h => ((p1 (andT h).1).trans (p2 (andT (andT h).2).1)).trans (p3 (andT (andT h).2).2)) .bl⟩
theorem marks_no {o u : CmpOp} {b d : Expr} (h1 : isSet b = false) (h2 : isSet d = false) : lastMarks [o, u] [b, d] = false := by
  show behindInMarks u d = false
  cases d <;> first | (simp [isSet] at h2; done) | (cases u <;> rfl)
theorem ge_chain (hu : X.A.units + 64 < cLine ∧ X.K = C.K ∧ X.w = C.w) {o u : CmpOp} (ha : PE X a (tE C ea)) (hb : PE X b (tE C eb)) (hc : PE X c (tE C ec)) (h1 : isSet b = false) (h2 : isSet c = false) : PE X (.Compare a [o, u] [b, c] pos) (tE C (.chain (cmpOp o) (cmpOp u) ea eb ec)) :=
  PE.imp (pe_chain (op_cmp (C := C) hu o) (op_cmp (C := C) hu u) ha hb hc (marks_no h1 h2)) fun σ H Q q => chain_read q
variable {rest : List Expr}
theorem ge_and (ha : PE X a (tE C ea)) (hb : PE X (.BoolOp .And (b :: rest) pos) (tE C eb)) : PE X (.BoolOp .And (a :: b :: rest) pos) (tE C (.and ea eb)) := by
  refine PE.imp (pe_and ha hb) fun σ H Q ⟨G, P, r, y, r', st, e, k⟩ => ?_
  simp only [ev] at e
  obtain ⟨x1, r1, h1, e⟩ := R.look_ok e
  refine tE_look true st h1 fun v1 G1 H1 P1 st1 s1 u1 p1 => ?_
  have u := u1 _ _ _ (Stp.refl ..) st1.gh fun _ => Same.refl _
  split at e
  · rename_i hx
    rw [hx] at u
    cases u.bli
    refine ⟨true, rfl, ?_⟩
    show tE C eb σ H1 Q
    exact ⟨G1, P1, _, y, r', st1, e, k.step s1 (fun h => p1 (andT h).1) fun h => (andT h).2⟩
  · rename_i hx
    rw [hx] at u
    cases u.bli
    cases e
    refine ⟨false, rfl, ?_⟩
    show Q (.bl false) H1
    exact k.fr st1 s1 (fun h => p1 (andT h).1) .bl
  · cases e
theorem ge_or (ha : PE X a (tE C ea)) (hb : PE X (.BoolOp .Or (b :: rest) pos) (tE C eb)) : PE X (.BoolOp .Or (a :: b :: rest) pos) (tE C (.or ea eb)) := by
  refine PE.imp (pe_or ha hb) fun σ H Q ⟨G, P, r, y, r', st, e, k⟩ => ?_
  simp only [ev] at e
  obtain ⟨x1, r1, h1, e⟩ := R.look_ok e
  refine tE_look true st h1 fun v1 G1 H1 P1 st1 s1 u1 p1 => ?_
  have u := u1 _ _ _ (Stp.refl ..) st1.gh fun _ => Same.refl _
  split at e
  · rename_i hx
    rw [hx] at u
    cases u.bli
    refine ⟨false, rfl, ?_⟩
    show tE C eb σ H1 Q
    exact ⟨G1, P1, _, y, r', st1, e, k.step s1 (fun h => p1 (andT h).1) fun h => (andT h).2⟩
  · rename_i hx
    rw [hx] at u
    cases u.bli
    cases e
    refine ⟨true, rfl, ?_⟩
    show Q (.bl true) H1
    exact k.fr st1 s1 (fun h => p1 (andT h).1) .bl
  · cases e
/-- truth of what is looked at -/
theorem truV_of {K : PySem.W.Frag} {H : Hp} {d : D} {v : V} {k : Bool} (rp : Rep C H d v) (h : truD d = some k) : TruV K v H k := by
  cases rp with
  | non => cases h; rfl
  | bl => cases h; rfl
  | int => cases h; rfl
  | lst hp r =>
    cases h
    refine .inl ⟨_, SqL.of hp, ?_⟩
    cases r <;> rfl
  | _ => cases h
theorem isTrue_pl (h : isTest a = false) : ∀ whole, isTrue a X.env whole = (do let v ← whole; standAt a.pos; holding [v] (truthy v)) := by
  intro whole
  cases a with
  | UnaryOp op _ _ => cases op <;> first | rfl | (simp [isTest] at h)
  | BoolOp => simp [isTest] at h
  | IfExp => simp [isTest] at h
  | Compare => simp [isTest] at h
  | _ => rfl
theorem tru_read {K : PySem.W.Frag} {σ : St} {H : Hp} {Q : Bool → Hp → Prop} (q : tT C ea σ H Q) : tE C ea σ H fun x H' => ∃ k, TruV K x H' k ∧ Q k H' := by
  obtain ⟨G, P, r, y, r', st, e, k⟩ := q
  obtain ⟨x, r1, h1, h2, rfl⟩ := R.tru_ok e
  exact tE_look true st h1 fun v1 G1 H1 P1 st1 s1 u1 p1 => ⟨y, truV_of (u1 _ _ _ (Stp.refl ..) st1.gh fun _ => Same.refl _) h2, k G1 H1 P1 st1 s1 p1⟩
theorem gt_val (ha : PE X a (tE C ea)) (h : isTest a = false) : PT X a (tT C ea) :=
  PT.imp (pt_truth ha (isTrue_pl h)) fun σ H Q q => tru_read q
theorem bl_read {σ : St} {H : Hp} {Q : Bool → Hp → Prop} (hb : ∀ r x r', ev ea r = .ok x r' → ∃ k, x = .v (.fr (.bl k))) (q : tT C ea σ H Q) : tE C ea σ H fun x H' => ∃ k, x = .bl k ∧ Q k H' := by
  obtain ⟨G, P, r, y, r', st, e, k⟩ := q
  obtain ⟨x, r1, h1, h2, rfl⟩ := R.tru_ok e
  obtain ⟨kk, rfl⟩ := hb _ _ _ h1
  cases h2
  exact tE_look true st h1 fun v1 G1 H1 P1 st1 s1 u1 p1 => ⟨_, (u1 _ _ _ (Stp.refl ..) st1.gh fun _ => Same.refl _).bli, k G1 H1 P1 st1 s1 p1⟩
theorem cmp_bl {o : Cop} {r r' : Env} {x : Val} (e : ev (.cmp o ea eb) r = .ok x r') : ∃ k, x = .v (.fr (.bl k)) := by
  simp only [ev] at e
  obtain ⟨x1, r1, h1, e⟩ := R.look_ok e
  obtain ⟨x2, r2, h2, e⟩ := R.look_ok e
  obtain ⟨t, ht, rfl, rfl⟩ := ofD_ok e
  cases hc : cmpD o x1.toD x2.toD with
  | none => rw [hc] at ht; cases ht
  | some b => rw [hc] at ht; cases ht; exact ⟨b, rfl⟩
theorem chain_bl {o u : Cop} {r r' : Env} {x : Val} (e : ev (.chain o u ea eb ec) r = .ok x r') : ∃ k, x = .v (.fr (.bl k)) := by
  simp only [ev] at e
  obtain ⟨x1, r1, h1, e⟩ := R.look_ok e
  obtain ⟨x2, r2, h2, e⟩ := R.look_ok e
  split at e
  · obtain ⟨x3, r3, h3, e⟩ := R.look_ok e
    obtain ⟨t, ht, rfl, rfl⟩ := ofD_ok e
    cases hc : cmpD u x2.toD x3.toD with
    | none => rw [hc] at ht; cases ht
    | some b => rw [hc] at ht; cases ht; exact ⟨b, rfl⟩
  · cases e; exact ⟨false, rfl⟩
  · cases e
theorem gt_cmp (hu : X.A.units + 64 < cLine ∧ X.K = C.K ∧ X.w = C.w) {o : CmpOp} (ha : PE X a (tE C ea)) (hb : PE X b (tE C eb)) (hm : behindInMarks o b = false) : PT X (.Compare a [o] [b] pos) (tT C (.cmp (cmpOp o) ea eb)) :=
  PT.imp (pt_cmpR (op_cmp (C := C) hu o) ha hb hm) fun σ H Q q => cmp_read (bl_read (fun _ _ _ h => cmp_bl h) q)
theorem gt_chain (hu : X.A.units + 64 < cLine ∧ X.K = C.K ∧ X.w = C.w) {o u : CmpOp} (ha : PE X a (tE C ea)) (hb : PE X b (tE C eb)) (hc : PE X c (tE C ec)) (h1 : isSet b = false) (h2 : isSet c = false) : PT X (.Compare a [o, u] [b, c] pos) (tT C (.chain (cmpOp o) (cmpOp u) ea eb ec)) :=
  PT.imp (pt_chain (op_cmp (C := C) hu o) (op_cmp (C := C) hu u) ha hb hc (marks_no h1 h2)) fun σ H Q q => chain_read (bl_read (fun _ _ _ h => chain_bl h) q)
theorem gt_not (ha : PT X a (tT C ea)) : PT X (.UnaryOp .Not a pos) (tT C (.not ea)) := by
  refine PT.imp (pt_not ha) fun σ H Q ⟨G, P, r, y, r', st, e, k⟩ => ?_
  obtain ⟨x, r1, h1, h2, rfl⟩ := R.tru_ok e
  simp only [ev] at h1
  split at h1
  · rename_i b r2 h3
    cases h1
    cases h2
    exact ⟨G, P, r, b, _, st, h3, fun G' H' P' st' s' p' => k G' H' P' st' s' p'⟩
  · cases h1
theorem ge_not (ha : PE X a (tE C ea)) : PE X (.UnaryOp .Not a pos) (tE C (.not ea)) := by
  refine PE.imp (pe_notT ha) fun σ H Q ⟨G, P, r, y, r', st, e, k⟩ => ?_
  simp only [ev] at e
  split at e
  · rename_i b r2 h3
    cases e
    exact tru_read ⟨G, P, r, b, _, st, h3, fun G' H' P' st' s' p' => k.fr st' s' p' .bl⟩
  · cases e
theorem gw_and1 (ha : PT X a (tT C ea)) : PW X (.BoolOp .And [a] pos) (tT C ea) := pw_and1 ha
theorem gw_or1 (ha : PT X a (tT C ea)) : PW X (.BoolOp .Or [a] pos) (tT C ea) := pw_or1 ha
theorem gw_and (ha : PT X a (tT C ea)) (hb : PW X (.BoolOp .And (b :: rest) pos) (tT C eb)) : PW X (.BoolOp .And (a :: b :: rest) pos) (tT C (.and ea eb)) := by
  refine PW.imp (pw_and ha hb) fun σ H Q ⟨G, P, r, y, r', st, e, k⟩ => ?_
  obtain ⟨x, r1, h1, h2, hr⟩ := R.tru_ok e
  simp only [ev] at h1
  obtain ⟨x1, r2, h3, h1⟩ := R.look_ok h1
  split at h1
  · rename_i hx
    exact ⟨G, P, r, true, lookE true x1 r2, st, by rw [h3]; exact R.tru_of (by rw [hx]; rfl), fun G' H' P' st' s' p' => ⟨G', P', _, y, r', st', by rw [h1, hr]; exact R.tru_of h2, fun G2 H2 P2 st2 s2 p2 => k G2 H2 P2 st2 (s'.trans s2) fun h => (p' (andT h).1).trans (p2 (andT h).2)⟩⟩
  · rename_i hx
    cases h1
    cases h2
    subst hr
    exact ⟨G, P, r, false, lookE true x1 r2, st, by rw [h3]; exact R.tru_of (by rw [hx]; rfl), fun G' H' P' st' s' p' => k G' H' P' st' s' fun h => p' (andT h).1⟩
  · cases h1
theorem gw_or (ha : PT X a (tT C ea)) (hb : PW X (.BoolOp .Or (b :: rest) pos) (tT C eb)) : PW X (.BoolOp .Or (a :: b :: rest) pos) (tT C (.or ea eb)) := by
  refine PW.imp (pw_or ha hb) fun σ H Q ⟨G, P, r, y, r', st, e, k⟩ => ?_
  obtain ⟨x, r1, h1, h2, hr⟩ := R.tru_ok e
  simp only [ev] at h1
  obtain ⟨x1, r2, h3, h1⟩ := R.look_ok h1
  split at h1
  · rename_i hx
    exact ⟨G, P, r, false, lookE true x1 r2, st, by rw [h3]; exact R.tru_of (by rw [hx]; rfl), fun G' H' P' st' s' p' => ⟨G', P', _, y, r', st', by rw [h1, hr]; exact R.tru_of h2, fun G2 H2 P2 st2 s2 p2 => k G2 H2 P2 st2 (s'.trans s2) fun h => (p' (andT h).1).trans (p2 (andT h).2)⟩⟩
  · rename_i hx
    cases h1
    cases h2
    subst hr
    exact ⟨G, P, r, true, lookE true x1 r2, st, by rw [h3]; exact R.tru_of (by rw [hx]; rfl), fun G' H' P' st' s' p' => k G' H' P' st' s' fun h => p' (andT h).1⟩
  · cases h1
theorem ge_ite (hc : PT X c (tT C ec)) (ha : PE X a (tE C ea)) (hb : PE X b (tE C eb)) : PE X (.IfExp c a b pos) (tE C (.ite ec ea eb)) := by
  refine PE.imp (pe_ifExp hc ha hb) fun σ H Q ⟨G, P, r, y, r', st, e, k⟩ => ?_
  simp only [ev] at e
  split at e
  · rename_i r1 h1
    exact ⟨G, P, r, true, r1, st, h1, fun G1 H1 P1 st1 s1 p1 => ⟨G1, P1, r1, y, r', st1, e, k.step s1 (fun h => p1 (andT h).1) fun h => (andT (andT h).2).1⟩⟩
  · rename_i r1 h1
    exact ⟨G, P, r, false, r1, st, h1, fun G1 H1 P1 st1 s1 p1 => ⟨G1, P1, r1, y, r', st1, e, k.step s1 (fun h => p1 (andT h).1) fun h => (andT (andT h).2).2⟩⟩
  · cases e

/-! ### argument lists, displays, slices -/
variable {e : Expr} {es : List Expr} {ee : E} {ees : Es}
theorem star_cons (h : notStar e = true) : starEach (e :: es) X.env = (false, eval e X.env) :: starEach es X.env := by
  cases e <;> first | rfl | (simp [notStar] at h)
theorem ga_nil : PA X [] (tEs C .nil) := by
  refine PA.imp pa_nil fun σ H Q ⟨G, P, r, ds, r', st, e, k⟩ => ?_
  simp only [evs] at e
  cases e
  exact k [] G H P st (Stp.refl ..) .nil fun _ => Same.refl _
theorem ga_cons (hn : notStar e = true) (he : PE X e (tE C ee)) (hs : PA X es (tEs C ees)) : PA X (e :: es) (tEs C (.cons ee ees)) := by
  refine PA.imp (pa_cons he hs (star_cons hn)) fun σ H Q ⟨G, P, r, ds, r', st, e, k⟩ => ?_
  simp only [evs] at e
  split at e
  · rename_i x r1 h1
    split at e
    · rename_i ds2 r2 h2
      cases e
      exact tE_settle st h1 fun v1 G1 P1 H1 st1 s1 rp p1 => ⟨G1, P1, _, ds2, _, st1, h2, fun vs G2 H2 P2 st2 s2 rs p2 => k (v1 :: vs) G2 H2 P2 st2 (s1.trans s2) (.cons (Rep.mono s2.gg rp) rs) fun h => (p1 (andT h).1).trans (p2 (andT h).2)⟩
    · cases e
  · cases e
theorem gu_nil : PA X [] (tEu C .nil) := by
  refine PA.imp pa_nil fun σ H Q ⟨G, P, r, ds, r', st, e, k⟩ => ?_
  simp only [evu] at e
  cases e
  exact k [] G H P st (Stp.refl ..) .nil fun _ => Same.refl _
theorem gu_cons (hn : notStar e = true) (he : PE X e (tE C ee)) (hs : PA X es (tEu C ees)) : PA X (e :: es) (tEu C (.cons ee ees)) := by
  refine PA.imp (pa_cons he hs (star_cons hn)) fun σ H Q ⟨G, P, r, ds, r', st, e, k⟩ => ?_
  simp only [evu] at e
  split at e
  · rename_i x r1 h1
    split at e
    · rename_i ds2 r2 h2
      cases e
      exact tE_use ees.pu st h1 fun v1 G1 H1 P1 st1 s1 u1 p1 => ⟨G1, P1, _, ds2, _, st1, h2, fun vs G2 H2 P2 st2 s2 rs p2 => k (v1 :: vs) G2 H2 P2 st2 (s1.trans s2) (.cons (u1 _ _ _ s2 p2) rs) fun h => (p1 (andT h).1).trans (p2 (andT h).2)⟩
    · cases e
  · cases e
theorem ge_tup {k : Nat} (hs : PA X es (tEs C ees)) : PE X (.Tuple es k pos) (tE C (.tup ees)) := by
  refine PE.imp (pe_tup hs) fun σ H Q ⟨G, P, r, y, r', st, e, k⟩ => ?_
  simp only [ev] at e
  split at e
  · rename_i ds r1 h1
    split at e
    · rename_i hl
      cases e
      exact ⟨G, P, r, ds, _, st, h1, fun vs G1 H1 P1 st1 s1 rs p1 => ⟨by rw [← Reps.length rs]; exact hl, fun p hp => (k.alc st1 s1 p1).tup st1.gh hp rs⟩⟩
    · cases e
  · cases e
theorem ge_lst (hs : PA X es (tEs C ees)) : PE X (.List es pos) (tE C (.lst ees)) := by
  refine PE.imp (pe_lst hs) fun σ H Q ⟨G, P, r, y, r', st, e, k⟩ => ?_
  simp only [ev] at e
  split at e
  · rename_i ds r1 h1
    split at e
    · rename_i hl
      cases e
      exact ⟨G, P, r, ds, _, st, h1, fun vs G1 H1 P1 st1 s1 rs p1 => ⟨by rw [← Reps.length rs]; exact hl, fun p hp => (k.alc st1 s1 p1).own st1.gh hp (.lst rs)⟩⟩
    · cases e
  · cases e
theorem ge_dnew (t : Bool) : PE X (.Dict [] [] pos) (tE C (.dnew t)) := by
  cases t with
  | false =>
    refine PE.imp pe_dnewK fun σ H Q ⟨G, P, r, y, r', st, e, k⟩ => ?_
    simp only [ev] at e
    cases e
    exact fun p hp => (k.alc st (Stp.refl ..) fun _ => Same.refl _).own st.gh hp (.dK (ks := []) rfl .nil)
  | true =>
    refine PE.imp pe_dnewT fun σ H Q ⟨G, P, r, y, r', st, e, k⟩ => ?_
    simp only [ev] at e
    cases e
    exact fun p hp => (k.alc st (Stp.refl ..) fun _ => Same.refl _).own st.gh hp (.dT (ks := []) rfl .nil)
theorem go_no : PO X none (tO C .no) := by
  refine PO.imp po_none fun σ H Q ⟨G, P, r, o, r', st, e, k⟩ => ?_
  simp only [evo] at e
  cases e
  exact k G H P st (Stp.refl ..) fun _ => Same.refl _
theorem go_so (he : PE X e (tE C ee)) : PO X (some e) (tO C (.so ee)) := by
  refine PO.imp (po_some he) fun σ H Q ⟨G, P, r, o, r', st, e, k⟩ => ?_
  simp only [evo] at e
  split at e
  · rename_i x r1 h1
    split at e
    · rename_i i hi
      cases e
      refine tE_look true st h1 fun v1 G1 H1 P1 st1 s1 u1 p1 => ?_
      have u := u1 _ _ _ (Stp.refl ..) st1.gh fun _ => Same.refl _
      rw [hi] at u
      exact ⟨i, u.inti, k G1 H1 P1 st1 s1 p1⟩
    · cases e
  · cases e
theorem ge_sli (hK : X.K = C.K) {lo hi : Option Expr} {olo ohi : Oe} {p2 : Pos} (ha : PE X a (tE C ea)) (hl : PO X lo (tO C olo)) (hh : PO X hi (tO C ohi)) : PE X (.Subscript a (.Slice lo hi none p2) pos) (tE C (.sli ea olo ohi)) := by
  refine PE.imp (pe_slice (sl_any hK) ha hl hh) fun σ H Q ⟨G, P, r, y, r', st, e, k⟩ => ?_
  simp only [ev] at e
  obtain ⟨x1, r1, h1, e⟩ := R.use_ok e
  split at e
  · rename_i l r2 h2
    split at e
    · rename_i h r3 h3
      obtain ⟨t, ht, rfl, rfl⟩ := ofT_ok e
      exact tE_use (olo.pu && ohi.pu) st h1 fun v1 G1 H1 P1 st1 s1 u1 p1 => ⟨G1, P1, _, l, r2, st1, h2, fun G2 H2 P2 st2 s2 p2 => ⟨G2, P2, r2, h, _, st2, h3, fun G3 H3 P3 st3 s3 p3 =>
        ⟨G3, _, t, st3.gh, u1 _ _ _ (s2.trans s3) fun h => (p2 (andT h).1).trans (p3 (andT h).2), ht, k.alc st3 ((s1.trans s2).trans s3) fun h => ((p1 (andT h).1).trans (p2 (andT (andT h).2).1)).trans (p3 (andT (andT h).2).2)⟩⟩⟩
    · cases e
  · cases e
end
end FJ

/-! Items, isinstance, built-in functions, targets, what is walked. -/
namespace FJ
open PySem L2

section
variable {X : Cx} {C : Ct} {G H : Hp} {a b c : Expr} {ea eb ec : E} {pos p : Pos} {v : V}
theorem look2_get {κ : Type} [DecidableEq κ] {k : κ} {d : D} : ∀ {ks : List κ} {ds : List D} {vs : List V}, look2 k ks ds = some d → Reps C G ds vs → ∃ v, valV (ks.zip vs) k = some v ∧ Rep C G d v
  | [], _, _, h, _ => by simp [look2] at h
  | _ :: _, _, _, h, .nil => by simp [look2] at h
  | q :: ks, d1 :: ds, v1 :: vs, h, .cons r1 r2 => by
    simp only [look2] at h
    unfold valV
    rw [List.zip_cons_cons, List.find?_cons]
    by_cases e : q = k
    · rw [if_pos e] at h
      cases h
      simp only [e, decide_true]
      exact ⟨v1, rfl, r1⟩
    · rw [if_neg e] at h
      simp only [e, decide_false]
      exact look2_get h r2
theorem key_of {d : D} {k : Key} (h : keyOf d = some k) (r : Rep C G d v) : v = kV k := by
  cases d with
  | int i => cases h; cases r; rfl
  | str i => cases h; cases r; rfl
  | _ => cases h
theorem keys_of : ∀ {ds : List D} {vs : List V} {ks : List Key}, keysOf ds = some ks → Reps C G ds vs → vs = ks.map kV
  | [], _, _, h, .nil => by cases h; rfl
  | d :: ds, _, ks, h, .cons r1 r2 => by
    simp only [keysOf] at h
    split at h
    · rename_i k ks1 h1 h2
      cases h
      rw [key_of h1 r1, keys_of h2 r2]; rfl
    · cases h
theorem at_get {α β : Type} {xs : List α} {ys : List β} {i : Int} {x : α} (hl : xs.length = ys.length) (h : atI xs i = some x) : ∃ j : Nat, xs[j]? = some x ∧ ∀ y, ys[j]? = some y → atI ys i = some y := by
  unfold atI at h ⊢
  rw [← hl]
  cases hj : ixN xs.length i with
  | none => rw [hj] at h; cases h
  | some j => rw [hj] at h; exact ⟨j, h, fun y hy => hy⟩
theorem reps_at {ds : List D} {vs : List V} {i : Int} {d : D} (r : Reps C G ds vs) (h : atI ds i = some d) : ∃ v, atI vs i = some v ∧ Rep C G d v := by
  obtain ⟨j, h1, h2⟩ := at_get (Reps.length r) h
  obtain ⟨v, h3, h4⟩ := Reps.get r h1
  exact ⟨v, h2 v h3, h4⟩
theorem plainIx (h : isSlice b = false) : PlainIx b := by
  intro o i
  cases b <;> first | rfl | (simp [isSlice] at h)
theorem noSl (h : isSlice b = false) : NoSl b := by
  intro o i
  cases b <;> first | rfl | (simp [isSlice] at h)
theorem idx_vals {σ : St} {H : Hp} {Q : VK} (q : tE C (.idx ea eb) σ H Q) : tE C ea σ H fun x H1 => tE C eb σ H1 fun y H2 => ∃ G a b d, Same G H2 ∧ Us C G H2 a x ∧ Us C G H2 b y ∧ idxD a b = some d ∧ ∀ v, Rep C G d v → Q v H2 := by
  obtain ⟨G, P, r, y, r', st, e, k⟩ := q
  simp only [ev] at e
  obtain ⟨x1, r1, h1, e⟩ := R.use_ok e
  obtain ⟨x2, r2, h2, e⟩ := R.use_ok e
  obtain ⟨d, hd, rfl, rfl⟩ := ofD_ok e
  refine tE_use eb.pu st h1 fun v1 G1 H1 P1 st1 s1 u1 p1 => ?_
  refine tE_use true st1 h2 fun v2 G2 H2 P2 st2 s2 u2 p2 => ?_
  exact ⟨G2, _, _, d, st2.gh, u1 _ _ _ s2 p2, u2 _ _ _ (Stp.refl ..) fun _ => Same.refl _, hd, fun v rv => k.fr st2 (s1.trans s2) (fun h => (p1 (andT h).1).trans (p2 (andT h).2)) rv⟩
theorem tE_mono {e : E} {σ : St} {H : Hp} {Q Q' : VK} (q : tE C e σ H Q) (k : ∀ v H, Q v H → Q' v H) : tE C e σ H Q' := by
  obtain ⟨G, P, r, y, r', st, e, h⟩ := q
  exact ⟨G, P, r, y, r', st, e, fun v G' H' P' A a b c d e => k _ _ (h v G' H' P' A a b c d e)⟩
/-- how it is subscripted -/
def srtD : D → Nat
  | .dK _ _ => 1 | .dT _ _ => 1 | .tab _ _ _ => 2 | _ => 0
def rIdx (C : Ct) (n : Nat) : R2 := fun x y H2 Q => ∃ G a b d, Same G H2 ∧ Us C G H2 a x ∧ Us C G H2 b y ∧ idxD a b = some d ∧ (∀ v, Rep C G d v → Q v H2) ∧ srtD a = n
theorem ix_seqD (hK : X.K = C.K) : IxR X (rIdx C 0) := by
  intro value slice pins s σ H x y v u Q I rx ry ⟨G, a, b, d, gh, ux, uy, e, k, hd⟩ hs
  cases a with
  | scr ns =>
    cases b with
    | int j =>
      cases uy.int
      obtain ⟨p, rfl, h⟩ := ux.scr gh
      rw [← hK] at h
      cases hn : atI ns j with
      | none => simp [idxD, at_, hn] at e
      | some n =>
        simp only [idxD, at_, hn] at e
        cases e
        obtain ⟨i, h1, h2⟩ := at_get (ys := ns.map V.int) (by rw [List.length_map]) hn
        refine ix_list value slice pins s σ H _ _ v u Q I rx ry ⟨p, _, j, .int n, rfl, rfl, h, h2 _ (by rw [List.getElem?_map, h1]; rfl), k _ .int⟩ hs
    | _ => cases e
  | lst ds =>
    cases b with
    | int j =>
      cases uy.int
      obtain ⟨p, vs, rfl, h, r⟩ := ux.lst gh
      obtain ⟨w, h1, h2⟩ := reps_at r e
      exact ix_list value slice pins s σ H _ _ v u Q I rx ry ⟨p, _, j, w, rfl, rfl, SqL.of h, h1, k _ h2⟩ hs
    | _ => cases e
  | tup ds =>
    cases b with
    | int j =>
      cases uy.int
      obtain ⟨p, vs, rfl, h, g, r⟩ := ux.tup gh
      obtain ⟨w, h1, h2⟩ := reps_at r e
      exact ix_tup value slice pins s σ H _ _ v u Q I rx ry ⟨p, _, j, w, rfl, rfl, SqT.of h, h1, k _ h2⟩ hs
    | _ => cases e
  | str z =>
    cases b with
    | int j =>
      cases ux.str; cases uy.int
      simp only [idxD] at e
      split at e
      · rename_i hz
        split at e
        · rename_i c hc
          cases e
          exact ix_str value slice pins s σ H _ _ v u Q I rx ry ⟨z, j, c, rfl, rfl, hz, hc, k _ .str⟩ hs
        · cases e
      · cases e
    | _ => cases e
  | dK _ _ => cases hd
  | dT _ _ => cases hd
  | tab _ _ _ => cases hd
  | _ => cases e
theorem look2_at {k : Str} {d : D} {vs : List V} {Pr : Str → V → Prop} : ∀ {ks : List Str} {ds : List D}, look2 k ks ds = some d → (∀ (i : Nat) (k : Str), ks[i]? = some k → ∃ v, vs[i]? = some v ∧ Pr k v) → Reps C G ds vs → ∃ v, Pr k v ∧ Rep C G d v := by
  intro ks ds h hp r
  have : ∃ i : Nat, ks[i]? = some k ∧ ds[i]? = some d := by
    clear hp r
    induction ks generalizing ds with
    | nil => simp [look2] at h
    | cons q ks ih =>
      cases ds with
      | nil => simp [look2] at h
      | cons d1 ds =>
        simp only [look2] at h
        by_cases e : q = k
        · rw [if_pos e] at h
          cases h
          exact ⟨0, by simp [e], rfl⟩
        · rw [if_neg e] at h
          obtain ⟨i, h1, h2⟩ := ih h
          exact ⟨i + 1, by simpa using h1, by simpa using h2⟩
  obtain ⟨i, h1, h2⟩ := this
  obtain ⟨v, h3, h4⟩ := hp i k h1
  obtain ⟨u, h5, h6⟩ := Reps.get r h2
  rw [h3] at h5
  cases h5
  exact ⟨v, h4, h6⟩
theorem Us.tab {ks ms : List Str} {ds : List D} {v : V} (u : Us C G H (.tab ks ds ms) v) (g : Same G H) : ∃ p vs, v = .ref p ∧ (p == sysModules) = false ∧ (∀ (i : Nat) (k : Str), ks[i]? = some k → ∃ v, vs[i]? = some v ∧ KDct C.K C.w p k v) ∧ (∀ m ∈ ms, KMiss C.K C.w p m) ∧ Reps C G ds vs := by
  rcases u with u | ⟨p, o, rfl, h, f⟩
  · cases u with
    | tab z a b c d => exact ⟨_, _, rfl, a, b, c, d⟩
  · cases f
theorem ge_idx (hK : X.K = C.K) (hw : X.w = C.w) (hu : X.A.units + 64 < cLine) (ha : PE X a (tE C ea)) (hb : PE X b (tE C eb)) (hs : isSlice b = false) : PE X (.Subscript a b pos) (tE C (.idx ea eb)) := by
  refine PE.imp (FJ.PE.or' (pe_ix (ix_seqD hK) ha hb (plainIx hs)) (FJ.PE.or' (pe_dget (by omega) ha hb (noSl hs)) (pe_ix ix_kdict ha hb (plainIx hs)))) fun σ H Q q => ?_
  have q' := q
  obtain ⟨G, P, r, y, r', st, e, k⟩ := q'
  simp only [ev] at e
  obtain ⟨x1, r1, h1, e⟩ := R.use_ok e
  obtain ⟨x2, r2, h2, e⟩ := R.use_ok e
  obtain ⟨d, hd, rfl, rfl⟩ := ofD_ok e
  have main : ∀ (K : V → V → Hp → Prop), (∀ G v1 v2 H2, Same G H2 → Us C G H2 x1.toD v1 → Us C G H2 x2.toD v2 → (∀ v, Rep C G d v → Q v H2) → K v1 v2 H2) → tE C ea σ H fun x H1 => tE C eb σ H1 fun y H2 => K x y H2 := fun K hK => by
    refine tE_use eb.pu st h1 fun v1 G1 H1 P1 st1 s1 u1 p1 => ?_
    refine tE_use true st1 h2 fun v2 G2 H2 P2 st2 s2 u2 p2 => ?_
    exact hK G2 v1 v2 H2 st2.gh (u1 _ _ _ s2 p2) (u2 _ _ _ (Stp.refl ..) fun _ => Same.refl _) fun v rv => k.fr st2 (s1.trans s2) (fun h => (p1 (andT h).1).trans (p2 (andT h).2)) rv
  generalize hx : x1.toD = dx at *
  generalize hy : x2.toD = dy at *
  cases dx with
  | dK ks ds =>
    refine .inr (.inl (main _ fun G v1 v2 H2 gh ux uy kk => ?_))
    obtain ⟨p, vs, rfl, h, l, rs⟩ := ux.dK gh
    simp only [idxD] at hd
    split at hd
    · rename_i kk2 hk
      obtain ⟨w, hw, rw'⟩ := look2_get hd rs
      have e2 := key_of hk (Us.rep gh uy)
      exact ⟨p, w, rfl, .inl ⟨_, kk2, .inl h, e2, hw.symm⟩, kk _ rw'⟩
    · cases hd
  | dT ks ds =>
    refine .inr (.inl (main _ fun G v1 v2 H2 gh ux uy kk => ?_))
    obtain ⟨p, vs, rfl, h, l, rs⟩ := ux.dT gh
    cases dy with
    | tup xs =>
      simp only [idxD] at hd
      split at hd
      · rename_i kk2 hk
        obtain ⟨w, hw, rw'⟩ := look2_get hd rs
        obtain ⟨q, ws, rfl, hq, gq, rq⟩ := uy.tup gh
        rw [keys_of hk rq] at hq
        exact ⟨p, w, rfl, .inr ⟨_, kk2, q, .inl h, rfl, hq, hw.symm⟩, kk _ rw'⟩
      · cases hd
    | _ => cases hd
  | tab ks ds ms =>
    refine .inr (.inr (main _ fun G v1 v2 H2 gh ux uy kk => ?_))
    cases dy with
    | str z =>
      obtain ⟨p, vs, rfl, low, h1, h2, rs⟩ := ux.tab gh
      cases uy.str
      obtain ⟨v, h3, h4⟩ := look2_at (by simpa only [idxD] using hd) h1 rs
      exact ⟨p, z, v, rfl, rfl, by rw [hK, hw]; exact h3, kk _ h4⟩
    | _ => cases hd
  | _ => exact .inl (main _ fun G v1 v2 H2 gh ux uy kk => ⟨G, _, _, d, gh, ux, uy, hd, kk, rfl⟩)

/-! ### isinstance -/
def tyName : Ty → String
  | .int => "int" | .str => "str" | .bool => "bool" | .list => "list" | .tuple => "tuple" | .dict => "dict" | .cls _ _ => "?"
def nameD : D → String
  | .non => "NoneType" | .bl _ => "bool" | .int _ => "int" | .str _ => "str" | .tup _ => "tuple" | .lst _ => "list" | .scr _ => "list" | .dK _ _ => "dict" | .dT _ _ => "dict" | .tab _ _ _ => "?" | .obj _ _ => "?"
theorem ty_rep {K : PySem.W.Frag} (hK : K = C.K) {d : D} (r : Rep C H d v) (h : (∀ c fs, d ≠ .obj c fs) ∧ ∀ a b c, d ≠ .tab a b c) : TyX K H v (.type (nameD d)) := by
  cases r with
  | non => exact .base .non
  | bl => exact .base (.bl _)
  | int => exact .base (.int _)
  | str => exact .base (.str _)
  | tup h1 _ => exact .base (.tup h1)
  | lst h1 _ => exact .base (.lst h1)
  | dK h1 _ _ => exact .base (.dK h1)
  | dT h1 _ _ => exact .base (.dT h1)
  | scr hs =>
    rcases hs with (h1 | ⟨o, h1⟩) | ⟨o, its, n, hk, hc, _⟩
    · exact .base (.lst h1)
    · exact .base (.frz h1)
    · exact .kList (by rw [hK]; exact hk) hc
  | obj _ _ => exact (h.1 _ _ rfl).elim
  | tab _ _ _ _ _ => exact (h.2 _ _ _ rfl).elim
theorem kit_all : ([("NoneType", false, false, false, false, false, false), ("bool", true, false, true, false, false, false), ("int", true, false, false, false, false, false), ("str", false, true, false, false, false, false), ("tuple", false, false, false, false, true, false), ("list", false, false, false, true, false, false), ("dict", false, false, false, false, false, true)].all fun (n, a, b, c, d, e, f) =>
    (kitB n "int" == some a) && (kitB n "str" == some b) && (kitB n "bool" == some c) && (kitB n "list" == some d) && (kitB n "tuple" == some e) && (kitB n "dict" == some f)) = true := by decide +kernel
theorem kit_isD {t : Ty} {d : D} {k : Bool} (h : isD t d = some k) (ht : ∀ c s, t ≠ .cls c s) : ((∀ c fs, d ≠ .obj c fs) ∧ ∀ a b c, d ≠ .tab a b c) ∧ kitB (nameD d) (tyName t) = some k := by
  have K := kit_all
  simp only [List.all_cons, List.all_nil, Bool.and_eq_true, beq_iff_eq, Bool.and_true] at K
  obtain ⟨⟨⟨⟨⟨⟨n1, n2⟩, n3⟩, n4⟩, n5⟩, n6⟩, ⟨⟨⟨⟨⟨b1, b2⟩, b3⟩, b4⟩, b5⟩, b6⟩, ⟨⟨⟨⟨⟨i1, i2⟩, i3⟩, i4⟩, i5⟩, i6⟩, ⟨⟨⟨⟨⟨s1, s2⟩, s3⟩, s4⟩, s5⟩, s6⟩, ⟨⟨⟨⟨⟨t1, t2⟩, t3⟩, t4⟩, t5⟩, t6⟩, ⟨⟨⟨⟨⟨l1, l2⟩, l3⟩, l4⟩, l5⟩, l6⟩, ⟨⟨⟨⟨d1, d2⟩, d3⟩, d4⟩, d5⟩, d6⟩ := K
  cases t with
  | cls c s => exact (ht _ _ rfl).elim
  | _ => cases d <;> first | (cases h; done) | (cases h; exact ⟨⟨fun _ _ z => (by cases z), fun _ _ _ z => (by cases z)⟩, by assumption⟩)
def bTy : Ty → Str
  | .int => "int" | .str => "str" | .bool => "bool" | .list => "list" | .tuple => "tuple" | .dict => "dict" | .cls _ _ => "?"
theorem boot_ty {t : Ty} (ht : ∀ c s, t ≠ .cls c s) : bootBuiltins (bTy t) = some (.type (tyName t)) := by
  cases t with
  | int => exact PyProof.Rows.boot_int
  | str => exact PyProof.Rows.boot_str
  | bool => exact PyProof.Rows.boot_bool
  | list => exact PyProof.Rows.boot_list
  | tuple => exact PyProof.Rows.boot_tuple
  | dict => exact PyProof.Rows.boot_dict
  | cls => exact (ht _ _ rfl).elim
theorem ge_isi (hK : X.K = C.K) {t : Ty} {np : Pos} (ht : ∀ c s, t ≠ .cls c s) (hg : Gl X "isinstance") (hm : X.mg "isinstance" = none) (hg2 : Gl X (bTy t)) (hm2 : X.mg (bTy t) = none) (hn : notStar a = true) (ha : PE X a (tE C ea)) :
    PE X (.Call (.Name "isinstance" p) [a, .Name (bTy t) np] [] pos) (tE C (.isi ea t)) := by
  have hb : PE X (.Name (bTy t) np) (tC (.ty (tyName t))) := pe_bltn hg2 hm2 (boot_ty ht) rfl (by cases t <;> first | decide | exact absurd rfl (ht _ _)) (by cases t <;> first | decide | exact absurd rfl (ht _ _))
  refine PE.imp (pe_callB call_isi hg hm PyProof.Rows.boot_isinstance (pa_cons ha (pa_cons hb pa_nil rfl) (star_cons hn)) (by decide) (by decide) (star_cons hn) rfl) fun σ H Q ⟨G, P, r, y, r', st, e, k⟩ => ?_
  simp only [ev] at e
  obtain ⟨x1, r1, h1, e⟩ := R.look_ok e
  obtain ⟨d, hd, rfl, rfl⟩ := ofD_ok e
  cases hi : isD t x1.toD with
  | none => rw [hi] at hd; cases hd
  | some bb =>
    rw [hi] at hd
    cases hd
    obtain ⟨n1, n2⟩ := kit_isD hi ht
    refine tE_look true st h1 fun v1 G1 H1 P1 st1 s1 u1 p1 => ?_
    exact ⟨v1, .ty (tyName t), _, _, bb, rfl, .ty _, ty_rep hK (u1 _ _ _ (Stp.refl ..) st1.gh fun _ => Same.refl _) n1, kit_ty n2, k.fr st1 s1 p1 .bl⟩

/-! ### built-in functions -/
variable {e : Expr} {es : List Expr} {ees : Es}
theorem star_no : ∀ {es : List Expr}, noStars es = true → ∀ {env : PySem.Env} {pos : Pos}, (backTo pos (starEach es env)).any (·.1) = false := by
  intro es
  induction es with
  | nil => intro _ env pos; rfl
  | cons e es ih =>
    intro h env pos
    simp only [noStars, List.all_cons, Bool.and_eq_true] at h
    have hs : starEach (e :: es) env = (false, eval e env) :: starEach es env := by
      cases e <;> first | rfl | (simp [notStar] at h)
    rw [hs]
    have := ih (by unfold noStars; exact h.2) (env := env) (pos := pos)
    unfold backTo at this ⊢
    rw [List.map_cons, List.any_cons]
    simpa using this
def bBi (f : BI) : Str := ⟨((idB f).toList.map Char.toNat).toArray⟩
theorem ge_bi (hK : X.K = C.K) (hc : X.calm = true) {f : BI} {x : Str} (hf : f = .len ∨ f = .sum ∨ f = .all ∨ f = .any ∨ f = .max ∨ f = .min ∨ f = .divmod) (hb : bootBuiltins x = some (.builtin (idB f))) (hx : x ≠ "__name__") (hdb : (x == ("__debug__" : Str)) = false)
    (hg : Gl X x) (hm : X.mg x = none) (hn : notStar e = true) (hns : noStars es = true) (ha : PA X (e :: es) (tEu C ees)) : PE X (.Call (.Name x p) (e :: es) [] pos) (tE C (.bi f ees)) := by
  refine PE.imp (pe_callB (call_bi hK hc hf) hg hm hb ha hx hdb (star_cons hn) (star_no hns)) fun σ H Q ⟨G, P, r, y, r', st, e, k⟩ => ?_
  simp only [ev] at e
  split at e
  · rename_i ds r1 h1
    obtain ⟨t, ht, rfl, rfl⟩ := ofT_ok e
    exact ⟨G, P, r, ds, _, st, h1, fun vs G1 H1 P1 st1 s1 rs p1 => ⟨G1, ds, t, st1.gh, rs, ht, k.alc st1 s1 p1⟩⟩
  · cases e
theorem ge_bt (hc : X.calm = true) {f : BI} {x : Str} (hf : f = .list ∨ f = .tuple ∨ f = .int) (hb : bootBuiltins x = some (.type (idT f))) (hx : x ≠ "__name__") (hdb : (x == ("__debug__" : Str)) = false)
    (hg : Gl X x) (hm : X.mg x = none) (hn : notStar e = true) (hns : noStars es = true) (ha : PA X (e :: es) (tEu C ees)) : PE X (.Call (.Name x p) (e :: es) [] pos) (tE C (.bi f ees)) := by
  refine PE.imp (pe_callTy (call_bt (C := C) hc hf) hg hm hb ha hx hdb (star_cons hn) (star_no hns)) fun σ H Q ⟨G, P, r, y, r', st, e, k⟩ => ?_
  simp only [ev] at e
  split at e
  · rename_i ds r1 h1
    obtain ⟨t, ht, rfl, rfl⟩ := ofT_ok e
    exact ⟨G, P, r, ds, _, st, h1, fun vs G1 H1 P1 st1 s1 rs p1 => ⟨G1, ds, t, st1.gh, rs, ht, k.alc st1 s1 p1⟩⟩
  · cases e
theorem base_ok {env : PySem.Env} {m : Str} (h : baseOk a = true) : attributeBase a m env (eval a env) = eval a env := by
  unfold attributeBase
  split
  · rename_i id _ pos
    simp only [baseOk, decide_eq_true_eq, ne_eq] at h
    have h1 : (id != ("super" : Str)) = true := by simpa using h
    simp [h1]
  · rfl
theorem ge_upper {apos : Pos} (hb : baseOk a = true) (hl : (apos.endLine == pos.line) = true) (ha : PE X a (tE C ea)) : PE X (.Call (.Attribute a "upper" apos) [] [] pos) (tE C (.mt .upper ea .nil)) := by
  refine PE.imp (pe_upper ha (base_ok hb) hl) fun σ H Q ⟨G, P, r, y, r', st, e, k⟩ => ?_
  simp only [ev, evu] at e
  obtain ⟨x1, r1, h1, e⟩ := R.use_ok e
  obtain ⟨t, ht, rfl, rfl⟩ := ofT_ok e
  refine tE_use true st h1 fun v1 G1 H1 P1 st1 s1 u1 p1 => ?_
  have u := u1 _ _ _ (Stp.refl ..) fun _ => Same.refl _
  cases hx : x1.toD with
  | str z =>
    rw [hx] at u ht
    cases u.str
    simp only [mtD] at ht
    split at ht
    · cases ht
      exact ⟨⟨z, rfl⟩, z, rfl, rfl, by assumption, k.fr st1 s1 (fun h => p1 (andT h).1) .str⟩
    · cases ht
  | _ => rw [hx] at ht; cases ht
end
end FJ

/-! sum(a list of lists, a list). -/
namespace FJ
open PySem L2 PyProof.Rows
/-- i's lists put together -/
def preCat (init : List Value) (ls : Nat → List Value) : Nat → List Value
  | 0 => init
  | i + 1 => preCat init ls i ++ ls i
section
variable {prog : Program} {w : World} {A : Around} {R : Result → Shared → Prop} {I : Addr} {fp wr : List Addr} {n : Nat} {P : Nat → Value → Prop} {St : Nat → Heap → Prop}
theorem sum_lists_loop (W : Walks prog w A.in1 I fp wr n P St) (init : List Value) (ls : Nat → List Value) (S : Addr) (hSf : S ∉ fp) (hfS : ∀ b ∈ fp, b < S) (h0 : Heap) (h0S : h0.objs.size ≤ S)
    (hP : ∀ i v, P i v → ∃ a, v = .ref a ∧ h0.IsList a (ls i).toArray ∧ a ∉ wr ∧ a ≠ S) (hsz : ∀ i, i ≤ n → (preCat init ls i).length ≤ sizeLine) :
    ∀ (k i : Nat) (s : Shared) (T : Addr) (c : Nat), n - i = k → i ≤ n → St i s.heap → (∀ b o, b ∉ wr → b ≠ S → h0.get? b = some o → s.heap.get? b = some o) →
    s.heap.get? S = some { cls := .type "list", dict := none, data := .seq #[.ref T] c, slots := #[] } → s.heap.IsList T (preCat init ls i).toArray → T ∉ wr → T ≠ S → (i = 0 ∨ (h0.objs.size ≤ T ∧ s.heap.get? T = some { cls := .type "list", data := .seq (preCat init ls i).toArray })) →
    (∀ h' tk T', (∀ b o, b ∉ wr → b ≠ S → h0.get? b = some o → h'.get? b = some o) → h'.IsList T' (preCat init ls n).toArray → T' ∉ wr → T' ≠ S → (n = 0 ∨ (h0.objs.size ≤ T' ∧ h'.get? T' = some { cls := .type "list", data := .seq (preCat init ls n).toArray })) → R (.ok (.ret (.ref T'))) { s with heap := h', toks := tk }) →
    codeAny (model prog w) A (.builtin "sum.loop" ⟨[.ref I, .ref S, rawInt 2, rawInt 0], []⟩) R s := by
  have hSw : S ∉ wr := fun h => hSf (W.sub _ h)
  intro k
  induction k with
  | zero =>
    intro i s T c hk hi hst hkeep hS hT hTw hTS hz0 hR
    have hin : i = n := by omega
    subst hin
    refine codeAny_builtin F.entry_sum_loop ?_
    rw [Around.under_plainId F.plain_sum_loop _]
    show wpAny _ A.in1 (seqItems? (.ref S) >>= _) _ _ s
    refine wpAny_bind (wpAny_seqItems hS rfl ?_)
    show wpAny _ A.in1 (tryCatch (pyNext (.ref I)) _ >>= _) _ _ s
    refine wpAny_bind (wpAny_tryCatch (W.done s _ _ hst fun h' tk hk' => ?_))
    exact wpAny_pure (hR h' tk T (fun b o hbw hbS e => hk' b o hbw (hkeep b o hbw hbS e)) (hT.at fun o e => hk' T o hTw e) hTw hTS (hz0.imp id fun z => ⟨z.1, hk' T _ hTw z.2⟩))
  | succ k ih =>
    intro i s T c hk hi hst hkeep hS hT hTw hTS hz0 hR
    have hlt : i < n := by omega
    refine codeAny_builtin F.entry_sum_loop ?_
    rw [Around.under_plainId F.plain_sum_loop _]
    show wpAny _ A.in1 (seqItems? (.ref S) >>= _) _ _ s
    refine wpAny_bind (wpAny_seqItems hS rfl ?_)
    show wpAny _ A.in1 (tryCatch (pyNext (.ref I)) _ >>= _) _ _ s
    refine wpAny_bind (wpAny_tryCatch (W.item i s _ _ hlt hst fun v h' tk hPv hst' hk' => ?_))
    obtain ⟨a, rfl, ha, haw, haS⟩ := hP i v hPv
    have hS' := hk' S _ hSw hS
    have hT' : h'.IsList T (preCat init ls i).toArray := hT.at fun o e => hk' T o hTw e
    have ha' : h'.IsList a (ls i).toArray := ha.at fun o e => hk' a o haw (hkeep a o haw haS e)
    show wpAny _ A.in1 ((holding [Value.ref a] (binaryOp .Add (.ref T) (.ref a))).attempt >>= _) _ _ _
    have hz := hsz (i + 1) (by omega)
    simp only [preCat, List.length_append] at hz
    obtain ⟨⟨cls, dd, data, sl⟩, ho, hc, n1, hd⟩ := id hT'
    obtain ⟨⟨cls2, dd2, data2, sl2⟩, ho2, hc2, n2, hd2⟩ := id ha'
    simp only at hc hd hc2 hd2
    subst hc hd hc2 hd2
    have e : (preCat init ls i).toArray ++ (ls i).toArray = (preCat init ls (i + 1)).toArray := by simp [preCat]
    refine wpAny_bind (wpAny_attempt (wpAny_holding (concat_meets ⟨_, ho, rfl⟩ ⟨_, ho2, rfl⟩ noFill_list_add seq_list_add PySem.F.slot_list_add PySem.F.entry_list_add (PySem.F.args_list_add_2 _ _) (list_addW T a (preCat init ls i).toArray (ls i).toArray n1 n2 dd dd2 sl sl2 (by simpa using hz)) ⟨ho, ho2, ?_⟩)))
    rw [e]
    generalize hN : ({ cls := .type "list", data := .seq (preCat init ls (i + 1)).toArray } : Obj) = newO
    have kp : ∀ b o, h'.get? b = some o → (h'.push newO).get? b = some o := fun b o e => Heap.get?_push_of_some _ e
    have hS1 := kp S _ hS'
    show wpAny _ A.in1 (updateSeq S (fun _ => #[.ref h'.objs.size]) >>= _) _ _ _
    refine wpAny_bind ?_
    refine wpAny_updateSeq hS1 rfl ?_
    have hS2 := Heap.get?_update_self (Obj.mapSeq fun _ => #[Value.ref h'.objs.size]) hS1 rfl
    refine wpAny_bind (wpAny_letGo ?_)
    refine wpAny_bind ?_
    have hSlt : S < h'.objs.size := Heap.lt_size hS'
    have hne : S ≠ h'.objs.size := Nat.ne_of_lt hSlt
    refine wpAny_updateSeq hS2 rfl (wpAny_pure ⟨plainId_quiet F.plain_sum_loop _, ih (i + 1) _ h'.objs.size _ (by omega) hlt (W.frame _ _ _ hst' fun b hb o e => ?_) (fun b o hbw hbS e => ?_) (Heap.get?_update_self _ hS2 rfl) ?_ ?_ (Ne.symm hne) (.inr ⟨Nat.le_trans h0S (Nat.le_of_lt hSlt), ?_⟩) fun h'' tk'' T'' hk'' hT'' hw'' hs'' hz'' => hR h'' tk'' T'' hk'' hT'' hw'' hs'' hz''⟩)
    · have hb' : S ≠ b := fun h : S = b => hSf (by rw [h]; exact hb)
      exact (Heap.get?_update_other _ _ hb').trans ((Heap.get?_update_other _ _ hb').trans (kp b o e))
    · exact (Heap.get?_update_other _ _ (Ne.symm hbS)).trans ((Heap.get?_update_other _ _ (Ne.symm hbS)).trans (kp b o (hk' b o hbw (hkeep b o hbw hbS e))))
    · refine ⟨newO, ?_, ?_⟩
      · exact (Heap.get?_update_other _ _ hne).trans ((Heap.get?_update_other _ _ hne).trans (Heap.get?_push_size _ (by rw [← hN]; rfl)))
      · subst hN
        exact ⟨rfl, 0, rfl⟩
    · intro hm
      exact Nat.lt_irrefl _ (Nat.lt_trans (hfS _ (W.sub _ hm)) hSlt)
    · rw [hN]
      exact (Heap.get?_update_other _ _ hne).trans ((Heap.get?_update_other _ _ hne).trans (Heap.get?_push_size _ (by rw [← hN]; rfl)))
end
section
variable {prog : Program} {w : World} {A : Around} {E : Value → Shared → Prop} {s : Shared}
theorem args_sum2 (a b : Value) : argsOk "sum" ⟨[a, b], []⟩ := by unfold argsOk; kernel_rfl
theorem preCat_eq (init : List Value) (lss : List (List Value)) : ∀ i, i ≤ lss.length → preCat init (fun j => lss.getD j []) i = init ++ (lss.take i).flatten
  | 0, _ => by simp [preCat]
  | i + 1, h => by
    have hi : i < lss.length := by omega
    simp only [preCat]
    have ht : lss.take (i + 1) = lss.take i ++ [lss[i]] := by rw [List.take_add_one, List.getElem?_eq_getElem hi]; rfl
    rw [preCat_eq init lss i (by omega), ht, List.getD_eq_getElem?_getD, List.getElem?_eq_getElem hi, List.flatten_append, List.append_assoc]
    congr 2
    simp
theorem sum_lists {l T0 : Addr} {its : List Value} {init : List Value} {lss : List (List Value)} {Q : Value → Shared → Prop} (hh : A.handled = none) (hl : s.heap.IsList l its.toArray) (ht : s.heap.IsList T0 init.toArray)
    (hi : ∀ (i : Nat) (v : Value), its[i]? = some v → ∃ a, v = .ref a ∧ s.heap.IsList a (lss.getD i []).toArray) (hn : its.length = lss.length) (hsz : (init ++ lss.flatten).length ≤ sizeLine)
    (h : ∀ h' tk T', (∀ b o, s.heap.get? b = some o → h'.get? b = some o) → h'.IsList T' (init ++ lss.flatten).toArray → (its = [] ∨ (s.heap.objs.size ≤ T' ∧ h'.get? T' = some { cls := .type "list", data := .seq (init ++ lss.flatten).toArray })) → Q (.ref T') { s with heap := h', toks := tk }) :
    wpAny (model prog w) A (call (.builtin "sum") [.ref l, .ref T0]) Q E s := by
  refine call_function_tree F.kind_sum F.plain_sum F.entry_sum (args_sum2 _ _) ?_
  unfold Builtin.«sum»
  simp only [List.length_cons, List.length_nil]
  rw [if_neg (by decide)]
  refine wpAny_bind (wpAny_of_eq (show Builtin.Builtins.bindParams "sum" ["start"] 0 ⟨[.ref T0], []⟩ = pure [some (.ref T0)] from rfl) ?_)
  have hlt : l < s.heap.objs.size := by obtain ⟨_, e, _⟩ := hl; exact Heap.lt_size e
  refine wpAny_bind (wpAny_pyIter_list hl ?_)
  generalize hs2 : s.heap.push { cls := .type "list_iterator", data := .fields #[.ref l, .int 0 0] } = h2
  have kp2 : ∀ b o, s.heap.get? b = some o → h2.get? b = some o := fun b o e => by rw [← hs2]; exact Heap.get?_push_of_some _ e
  have ht2 : h2.IsList T0 init.toArray := ht.at fun o e => kp2 _ _ e
  have sz2 : h2.objs.size = s.heap.objs.size + 1 := by rw [← hs2]; exact Heap.size_push _ _
  refine wpAny_bind (wpAny_pure ?_)
  simp only [List.forIn_cons, List.forIn_nil]
  have ty : ({ s with heap := h2 } : Shared).TypeIs (.ref T0) "list" := ht2.typeIs
  refine wpAny_bind (wpAny_bind (wpAny_bind (wpAny_isInstance (T := "list") (b := false) ty F.sub_list_str ?_)))
  simp only [Bool.false_eq_true, if_false]
  refine wpAny_pure (wpAny_bind (wpAny_bind (wpAny_isInstance (T := "list") (b := false) ty F.sub_list_bytes ?_)))
  simp only [Bool.false_eq_true, if_false]
  refine wpAny_pure (wpAny_bind (wpAny_bind (wpAny_isInstance (T := "list") (b := false) ty F.sub_list_bytearray ?_)))
  simp only [Bool.false_eq_true, if_false]
  refine wpAny_pure (wpAny_pure ?_)
  refine wpAny_bind (wpAny_newObj_type ?_)
  have W := Walks.list (prog := prog) (w := w) (A := A.in1) hh s.heap.objs.size l (Nat.ne_of_lt hlt) its.toArray
  have hfS : ∀ b ∈ [s.heap.objs.size, l], b < h2.objs.size := fun b hb => by
    rw [sz2]
    rcases List.mem_cons.mp hb with rfl | hb
    · exact Nat.lt_succ_self _
    · rcases List.mem_cons.mp hb with rfl | hb
      · exact Nat.lt_succ_of_lt hlt
      · cases hb
  have hT0 : T0 < s.heap.objs.size := by obtain ⟨_, e, _⟩ := ht; exact Heap.lt_size e
  have hSf : h2.objs.size ∉ [s.heap.objs.size, l] := fun hm => Nat.lt_irrefl _ (hfS _ hm)
  have notI : ∀ a o, s.heap.get? a = some o → a ≠ s.heap.objs.size := fun a o e => Nat.ne_of_lt (Heap.lt_size e)
  have l1 : its.toArray.size = lss.length := by simpa using hn
  have hzz : ∀ i, i ≤ its.toArray.size → (preCat init (fun j => lss.getD j []) i).length ≤ sizeLine := fun i hi => by
    rw [preCat_eq init lss i (by omega)]
    refine Nat.le_trans ?_ hsz
    rw [List.length_append, List.length_append]
    refine Nat.add_le_add_left ?_ _
    have : lss.flatten = (lss.take i).flatten ++ (lss.drop i).flatten := by rw [← List.flatten_append, List.take_append_drop]
    rw [this, List.length_append]
    omega
  have kp3 : ∀ b o, h2.get? b = some o → (h2.push { cls := .type "list", data := .seq #[.ref T0] }).get? b = some o := fun b o e => Heap.get?_push_of_some _ e
  have ne2 : ∀ a o, s.heap.get? a = some o → a ≠ h2.objs.size := fun a o e => Nat.ne_of_lt (by rw [sz2]; exact Nat.lt_succ_of_lt (Heap.lt_size e))
  have T0e : ∃ o, s.heap.get? T0 = some o := by obtain ⟨o, e, _⟩ := ht; exact ⟨o, e⟩
  obtain ⟨oT, eT⟩ := T0e
  refine wpAny_pure ⟨plainId_quiet F.plain_sum_loop _, sum_lists_loop W init (fun j => lss.getD j []) h2.objs.size hSf hfS s.heap (by rw [sz2]; exact Nat.le_succ _) (fun i v hv => ?_) hzz its.toArray.size 0 _ T0 0 rfl (Nat.zero_le _) ?_ (fun b o hbw hbS e => kp3 b o (kp2 b o e)) (Heap.get?_push_size _ rfl) (ht2.at fun o e => kp3 _ _ e) ?_ (ne2 _ _ eT) (.inl rfl) fun h' tk T' hk hT' hw' hs' hz' => ?_⟩
  · obtain ⟨a, e1, e2⟩ := hi i v (by simpa using hv)
    have ea : ∃ o, s.heap.get? a = some o := by obtain ⟨o, e, _⟩ := e2; exact ⟨o, e⟩
    obtain ⟨oa, ea⟩ := ea
    exact ⟨a, e1, e2, by simpa using notI a oa ea, ne2 a oa ea⟩
  · refine ⟨?_, ?_⟩
    · refine ⟨_, kp3 _ _ (by rw [← hs2]; exact Heap.get?_push_size _ rfl), rfl, rfl⟩
    · exact hl.at fun o e => kp3 _ _ (kp2 _ _ e)
  · simpa using notI T0 oT eT
  · have hp := preCat_eq init lss its.toArray.size (by omega)
    rw [hp, l1, List.take_length] at hT' hz'
    exact h h' tk T' (fun b o e => hk b o (by simpa using notI b o e) (ne2 b o e) e) hT' (hz'.imp (fun z => by
      have z' : lss.length = 0 := z
      rw [← hn] at z'
      exact List.eq_nil_of_length_eq_zero z') id)
end
/-- lists, each of its own -/
theorem lists_are {P : Program} {w : World} {C : Ct} {G H : Hp} {s : Shared} (ok : HOk P w H s.heap) (g : Same G H) : ∀ {ds : List D} {vs : List V} {its : List Value} {ls : List (List D)}, Reps C G ds vs → Vals vs its → listsOf ds = some ls →
    ∃ (lss : List (List Value)) (vss : List (List V)), its.length = lss.length ∧ (∀ (i : Nat) (v : Value), its[i]? = some v → ∃ a, v = .ref a ∧ s.heap.IsList a (lss.getD i []).toArray) ∧ Vals vss.flatten lss.flatten ∧ Reps C G ls.flatten vss.flatten
  | [], _, _, ls, .nil, .nil, e => by
    cases e
    exact ⟨[], [], rfl, fun i v h => by simp at h, .nil, .nil⟩
  | d :: ds, _, _, ls, .cons r1 r2, .cons q1 q2, e => by
    cases d with
    | lst es =>
      simp only [listsOf] at e
      cases hd : listsOf ds with
      | none => rw [hd] at e; cases e
      | some ms =>
        rw [hd] at e
        cases e
        obtain ⟨lss, vss, h1, h2, h3, h4⟩ := lists_are ok g r2 q2 hd
        cases r1 with
        | lst hp rs =>
          cases q1
          obtain ⟨us, q, il⟩ := lst_is ok (g _ _ hp)
          refine ⟨us :: lss, _ :: vss, by simp [h1], fun i v hv => ?_, q.append h3, Reps.app rs h4⟩
          cases i with
          | zero =>
            simp at hv
            exact ⟨_, hv.symm, by simpa using il⟩
          | succ i => simpa using h2 i v (by simpa using hv)
    | _ => cases e
theorem call_sum2 {X : Cx} {C : Ct} (hc : X.calm = true) {ds es : List D} {ls : List (List D)} {G : Hp} {pins : List (Addr × Obj)} {s : Shared} {σ : L2.St} {H : Hp} {v u : V} {us : List Value} {Q : VK} (I : L2.Inv X pins σ H s) (r : Vals [v, u] us) (gh : Same G H) (uv : Us C G H (.lst ds) v) (uu : Us C G H (.lst es) u)
    (hl : listsOf ds = some ls) (hd : ds ≠ []) (hz : (es ++ ls.flatten).length ≤ sizeLine) (k : Alc C G H (.ow (.lst (es ++ ls.flatten))) Q) : wpAny (model X.prog X.w) X.A (call (.builtin "sum") us) (EP X pins σ Q) X.xe s := by
  obtain ⟨p, ws, rfl, h, rr⟩ := uv.lst gh
  obtain ⟨q, zs, rfl, h', rr'⟩ := uu.lst gh
  obtain ⟨u1, us', rfl, r1, r2⟩ : ∃ u1 us', us = u1 :: us' ∧ RelV (.ref p) u1 ∧ Vals [V.ref q] us' := by cases r with | cons a b => exact ⟨_, _, rfl, a, b⟩
  cases r1
  obtain rfl := Vals.ref1 r2
  obtain ⟨its, q1, i1⟩ := lst_is I.hok h
  obtain ⟨ini, q2, i2⟩ := lst_is I.hok h'
  obtain ⟨lss, vss, a1, a2, a3, a4⟩ := lists_are I.hok gh rr q1 hl
  have vz : (zs ++ vss.flatten).length ≤ sizeLine := by
    rw [List.length_append, ← Reps.length rr', ← Reps.length a4, ← List.length_append]; exact hz
  have lz : (ini ++ lss.flatten).length ≤ sizeLine := by
    rw [List.length_append, ← q2.length, ← a3.length, ← List.length_append]; exact vz
  refine sum_lists (I.ok.hd hc) i1 i2 a2 a1 lz fun h2 tk T' hk hT' hz' => ?_
  rcases hz' with z | ⟨z1, z2⟩
  · subst z
    cases q1
    cases rr
    exact (hd rfl).elim
  · have hf : H T' = none := I.hok.fresh z1
    have I2 : L2.Inv X pins σ (upd H T' (.lst (zs ++ vss.flatten))) { s with heap := h2, toks := tk } := I.laid hk z1 ⟨vz, _, 0, q2.append a3, z2⟩
    exact ⟨.ref T', _, I2, rfl, k.own gh hf (.lst (Reps.app rr' a4))⟩
section
variable {X : Cx} {C : Ct} {a b o : Expr} {ees : Es} {eo : E} {p pos apos : Pos}
theorem call_sum2R (hc : X.calm = true) : CallR X (.builtin "sum") (rBi C .sum2) := by
  intro pins s σ H vs us Q I r ⟨G, ds, t, gh, ps, e, k⟩
  cases ds with
  | nil => cases e
  | cons d ds =>
    cases ds with
    | nil => cases d <;> cases e
    | cons d2 ds =>
      cases ds with
      | cons _ _ => cases d <;> cases d2 <;> cases e
      | nil =>
        obtain ⟨v, u, rfl, u1, u2⟩ := two_of ps
        cases d with
        | lst xs =>
          cases d2 with
          | lst es =>
            simp only [biD] at e
            cases hl : listsOf xs with
            | none => rw [hl] at e; cases e
            | some ls =>
              rw [hl] at e
              simp only at e
              split at e
              · rename_i hz
                cases e
                exact call_sum2 hc I r gh u1 u2 hl hz.1 hz.2 k
              · cases e
          | _ => cases e
        | _ => cases d2 <;> cases e
theorem ge_sum2 (hc : X.calm = true) (hg : Gl X "sum") (hm : X.mg "sum" = none) (hn : notStar a = true) (hns : noStars [b] = true) (ha : PA X [a, b] (tEu C ees)) : PE X (.Call (.Name "sum" p) [a, b] [] pos) (tE C (.bi .sum2 ees)) := by
  refine PE.imp (pe_callB (call_sum2R (C := C) hc) hg hm PyProof.Rows.boot_sum ha (by decide) (by decide) (star_cons hn) (star_no hns)) fun σ H Q ⟨G, P, r, y, r', st, e, k⟩ => ?_
  simp only [ev] at e
  split at e
  · rename_i ds r1 h1
    obtain ⟨t, ht, rfl, rfl⟩ := ofT_ok e
    exact ⟨G, P, r, ds, _, st, h1, fun vs G1 H1 P1 st1 s1 rs p1 => ⟨G1, ds, t, st1.gh, rs, ht, k.alc st1 s1 p1⟩⟩
  · cases e
/-- d.get(k, x) of a dict of the module -/
def tTabGet (C : Ct) (to : TE) (t : TA) : TE := fun σ H Q => to σ H fun x H1 => (∃ q es n, x = .ref q ∧ C.K.lookup q = some ⟨.type "dict", none, .dict es n, #[]⟩) ∧ t σ H1 fun xs H2 => ∃ q z y, x = .ref q ∧ xs = [.str z, y] ∧ (q == sysModules) = false ∧
  ((∃ v, KDct C.K C.w q z v ∧ Q v H2) ∨ (KMiss C.K C.w q z ∧ Q y H2))
theorem pe_tabget {to : TE} {t : TA} (hK : X.K = C.K) (hw : X.w = C.w) (ho : PE X o to) (ha : PA X [a, b] t)
    (hbase : attributeBase o "get" X.env (eval o X.env) = eval o X.env)
    (hfew : ((backTo pos (starEach [a, b] X.env)).all (fun x => !x.1) && (backToKw pos (keywordEach [] X.env)).all (fun x => x.1.isSome)
      && decide (([a, b] : List Expr).length + ([] : List Keyword).length + (if ([] : List Keyword).isEmpty then 0 else 1) < 30)) = true)
    (hline : (apos.endLine == pos.line) = true) (hs : starEach [a, b] X.env = (false, eval a X.env) :: starEach [b] X.env) (hplain : (backTo pos (starEach [b] X.env)).any (·.1) = false) :
    PE X (.Call (.Attribute o "get" apos) [a, b] [] pos) (tTabGet C to t) := by
  refine ⟨fun pins s σ H Q I h => ?_⟩
  refine wpAny_Call_method_late hbase hfew hline rfl (thn (ho.run pins s σ H _ I h) fun v s1 ⟨x, H1, I1, r1, ⟨q, es, n, ex, hl⟩, q1⟩ => ?_)
  subst ex
  obtain rfl : v = Value.ref q := r1
  rw [← hK] at hl
  have hh := I1.kIn q _ hl
  refine ⟨"dict", "dict.get", PySem.F.plainAttrs_dict, PySem.F.slot_dict_get, PySem.F.type_dict_get, ⟨_, hh, rfl⟩, fun a' e' => (by cases e'; exact ⟨_, hh, rfl⟩), ?_⟩
  have hA := ha.run pos pins s1 σ H1 _ I1 q1
  rw [hs] at hA ⊢
  refine Calls.callWith_builtin (by show (false || (backTo pos (starEach [b] X.env)).any (·.1)) = false; rw [hplain] <;> rfl) (Calls.evalArgs_plain ?_)
  refine thn hA fun us s2 ⟨vs, H2, I2, r2, q', z, y, eq', evs', low, q2⟩ => ?_
  cases eq'
  subst evs'
  obtain ⟨u1, u2, rfl, ru1, ru2⟩ := Vals.two r2
  obtain ⟨tz, rfl⟩ := (show ∃ t, u1 = Value.str z t from ru1)
  have hh2 := I2.kIn q _ hl
  have hty : s2.TypeIs (.ref q) "dict" := ⟨_, hh2, rfl⟩
  rcases q2 with ⟨r, ⟨es2, n2, u0, hl2, hk, e, ru⟩, q2⟩ | ⟨⟨es2, n2, hl2, hk, _, e⟩, q2⟩
  · rw [← hK] at hl2 e
    rw [← hw] at hk
    have hm := PySem.W.mapOf_K (prog := X.prog) (w := X.w) I2.kIn hl2 hk
    refine call_meetsIn PySem.F.slot_dict_get hty PySem.F.entry_dict_get (PySem.F.args_dict_get_3 _ _ _) (meets_dict_get_default (strKind X.prog X.w) q (strKind_is X.prog X.w z tz) low u2) ⟨_, hm, ?_⟩
    rw [PySem.W.find_K hl2 e]
    exact ⟨_, _, I2.tok _, ru, q2⟩
  · rw [← hK] at hl2 e
    rw [← hw] at hk
    have hm := PySem.W.mapOf_K (prog := X.prog) (w := X.w) I2.kIn hl2 hk
    refine call_meetsIn PySem.F.slot_dict_get hty PySem.F.entry_dict_get (PySem.F.args_dict_get_3 _ _ _) (meets_dict_get_default (strKind X.prog X.w) q (strKind_is X.prog X.w z tz) low u2) ⟨_, hm, ?_⟩
    rw [PySem.W.find_K hl2 e]
    exact ⟨_, _, I2.tok _, ru2, q2⟩
theorem Us.atom {G H G' : Hp} {d : D} {v : V} (h : atomD d = true) (u : Us C G H d v) : Rep C G' d v := by
  rcases u with u | ⟨p, o, rfl, _, f⟩
  · cases u <;> first | (cases h; done) | constructor
  · cases f <;> cases h
theorem star_all : ∀ {es : List Expr}, noStars es = true → ∀ {env : PySem.Env} {pos : Pos}, (backTo pos (starEach es env)).all (fun x => !x.1) = true := by
  intro es h env pos
  have := star_no h (env := env) (pos := pos)
  rw [List.all_eq_not_any_not, Bool.not_eq_true']
  simpa using this
theorem ge_get (hK : X.K = C.K) (hw : X.w = C.w) (hb : baseOk o = true) (hl : (apos.endLine == pos.line) = true) (hn : noStars [a, b] = true) (ho : PE X o (tE C eo)) (ha : PA X [a, b] (tEu C ees)) : PE X (.Call (.Attribute o "get" apos) [a, b] [] pos) (tE C (.mt .get eo ees)) := by
  have hn1 : notStar a = true := by simp only [noStars, List.all_cons, Bool.and_eq_true] at hn; exact hn.1
  have hn2 : noStars [b] = true := by simp only [noStars, List.all_cons, Bool.and_eq_true] at hn ⊢; exact hn.2
  have hfew : ((backTo pos (starEach [a, b] X.env)).all (fun x => !x.1) && (backToKw pos (keywordEach [] X.env)).all (fun x => x.1.isSome)
      && decide (([a, b] : List Expr).length + ([] : List Keyword).length + (if ([] : List Keyword).isEmpty then 0 else 1) < 30)) = true := by
    rw [star_all hn]; rfl
  refine PE.imp (pe_tabget hK hw ho ha (base_ok hb) hfew hl (star_cons hn1) (star_no hn2)) fun σ H Q ⟨G, P, r, y, r', st, e, k⟩ => ?_
  simp only [ev] at e
  obtain ⟨x1, r1, h1, e⟩ := R.use_ok e
  split at e
  · rename_i ds r2 h2
    obtain ⟨t, ht, rfl, rfl⟩ := ofT_ok e
    refine tE_use ees.pu st h1 fun v1 G1 H1 P1 st1 s1 u1 p1 => ?_
    have u0 := u1 _ _ _ (Stp.refl ..) fun _ => Same.refl _
    have fin : ∀ (z : Str) (y : D) (ks ms : List Str) (vs : List D), ds = [.str z, y] → x1.toD = .tab ks vs ms → ((∃ d, look2 z ks vs = some d ∧ t = .fr d) ∨ (ms.contains z = true ∧ atomD y = true ∧ t = .fr y)) → (∃ q es n, v1 = .ref q ∧ C.K.lookup q = some ⟨.type "dict", none, .dict es n, #[]⟩) ∧ tEu C ees σ H1 fun xs H2 => ∃ q z y, v1 = .ref q ∧ xs = [.str z, y] ∧ (q == sysModules) = false ∧ ((∃ v, KDct C.K C.w q z v ∧ Q v H2) ∨ (KMiss C.K C.w q z ∧ Q y H2)) := by
      intro z y ks ms vs eds ex hh
      subst eds
      rw [ex] at u0
      obtain ⟨q, ws, rfl, low, g1, g2, g3⟩ := u0.tab st1.gh
      refine ⟨?_, _, _, _, _, _, st1, h2, fun us G2 H2 P2 st2 s2 ps p2 => ?_⟩
      · rcases hh with ⟨d, hd, _⟩ | ⟨hm, _, _⟩
        · obtain ⟨v, ⟨es, n, u, hl, _⟩, _⟩ := look2_at hd g1 g3
          exact ⟨q, es, n, rfl, hl⟩
        · obtain ⟨es, n, hl, _⟩ := g2 z (by simpa using hm)
          exact ⟨q, es, n, rfl, hl⟩
      · obtain ⟨w1, w2, rfl, uw1, uw2⟩ := two_of ps
        cases uw1.str
        have s02 := s1.trans s2
        rcases hh with ⟨d, hd, rfl⟩ | ⟨hm, hy, rfl⟩
        · obtain ⟨v, kd, rv⟩ := look2_at hd g1 g3
          exact ⟨q, z, w2, rfl, rfl, low, .inl ⟨v, kd, k.fr st2 s02 (fun h => (p1 (andT h).1).trans (p2 (andT h).2)) (Rep.mono s2.gg rv)⟩⟩
        · exact ⟨q, z, w2, rfl, rfl, low, .inr ⟨g2 z (by simpa using hm), k.fr st2 s02 (fun h => (p1 (andT h).1).trans (p2 (andT h).2)) (Us.atom hy uw2)⟩⟩
    revert ht
    generalize hx : x1.toD = dx
    intro ht
    cases dx with
    | tab ks vs ms =>
      cases ds with
      | nil => cases ht
      | cons z ds =>
        cases z with
        | str z =>
          cases ds with
          | nil => cases ht
          | cons y ds =>
            cases ds with
            | cons _ _ => cases ht
            | nil =>
              simp only [mtD] at ht
              refine fin z y ks ms vs rfl hx ?_
              split at ht
              · rename_i v hv
                cases ht
                exact .inl ⟨_, hv, rfl⟩
              · split at ht
                · rename_i hc
                  cases ht
                  simp only [Bool.and_eq_true] at hc
                  exact .inr ⟨hc.1, hc.2, rfl⟩
                · cases ht
        | _ => cases ht
    | _ => cases ht
  · cases e
end
end FJ

/-! zip of a text and a tuple. -/
namespace FJ
open PySem PySem.Spec PyProof.Rows L2
/-- the signs of x and the items of the tuple at b, in new pairs -/
def Itst (K : PySem.W.Frag) (x : Str) (b : Addr) : L2.It :=
  ⟨fun i H => i < x.cps.size ∧ ∃ ys y, SqT K H b ys ∧ ys[i]? = some y,
   fun i H v H' => ∃ T c y, v = .ref T ∧ H T = none ∧ H' = upd H T (.tup [.str ⟨#[c]⟩, y]) ∧ x.cps[i]? = some c ∧ ∀ ys, SqT K H b ys → ys[i]? = some y,
   fun i H => i ≤ x.cps.size ∧ ∃ ys, SqT K H b ys ∧ i ≤ ys.length ∧ (i = x.cps.size ∨ i = ys.length)⟩
theorem turn_st {P : Program} {w : World} {K : PySem.W.Frag} {elts : List Expr} {kk : Nat} {tpos : Pos} {x : Str} {t : Tok} {b z TI TO i1 i2 : Addr} (D : ZipSep2 z TI TO i1 i2 [i1] [i2, b]) (hb2 : b ≠ i2) :
    Turn P w K (.Tuple elts kk tpos) (Itst K x b) [z, TI, TO, i1, i2] z (fun i h => IsZip h z TI TO .none ∧ IsTupOf2 h TI (.ref i1) (.ref i2) ∧ (∃ p q, IsTupOf2 h TO p q) ∧ h.IsStrIter i1 (strIterType x) x t i ∧ h.IsTupleIter i2 b i) where
  mem := by simp
  obj := fun i h st c hc => by
    obtain ⟨hz, hTI, ⟨p, q, hTO⟩, ⟨o1, e1, _, d1⟩, ⟨o2, e2, _, d2⟩⟩ := st
    simp only [List.mem_cons, List.not_mem_nil, or_false] at hc
    rcases hc with rfl | rfl | rfl | rfl | rfl
    · exact ⟨_, hz, fun v e => by cases e⟩
    · exact ⟨_, hTI, fun v e => by cases e⟩
    · exact ⟨_, hTO, fun v e => by cases e⟩
    · exact ⟨o1, e1, fun v e => by rw [d1] at e; cases e⟩
    · exact ⟨o2, e2, fun v e => by rw [d2] at e; cases e⟩
  keep := fun i h h' st k => by
    obtain ⟨hz, hTI, ⟨p, q, hTO⟩, ⟨o1, e1, r1⟩, h2⟩ := st
    exact ⟨k _ (by simp) _ hz, k _ (by simp) _ hTI, ⟨p, q, k _ (by simp) _ hTO⟩, ⟨o1, k i1 (by simp) o1 e1, r1⟩, h2.at fun o e => k i2 (by simp) o e⟩
  item := by
    intro X hP hw hK hc i pins s σ H E I hf st hg
    subst hP hw hK
    obtain ⟨hz, hTI, ⟨p0, q0, hTO⟩, h1, h2⟩ := st
    obtain ⟨hi, ys, y, hy, hyi⟩ := hg
    obtain ⟨its, rv, tp, _⟩ := I.tuple hy
    obtain ⟨u, hu, ru⟩ := rv.get hyi
    have hi2 : i < its.toArray.size := by simpa using ltOf hu
    have D1 := Draws.text (prog := X.prog) (w := X.w) (A := X.A.in1) (I.ok.hd hc : X.A.in1.handled = none) i1 x t
    have D2 := Draws.tuple (prog := X.prog) (w := X.w) (A := X.A.in1) (I.ok.hd hc : X.A.in1.handled = none) i2 b hb2 its.toArray
    have zl : z < s.heap.objs.size := Heap.lt_size hz
    refine wpAny_pyNext_zipD2_item D D1 D2 hz hTI hTO h1 ⟨h2, tp⟩ hi hi2 fun x1 x2 g tk y1 y2 z1 o1 d1 d2 new _ kp => ?_
    obtain ⟨c, tu, hxc, rfl⟩ := y1
    have e2 : x2 = u := by
      have : its[i]? = some x2 := by simpa using y2
      rw [hu] at this
      exact (Option.some.inj this).symm
    subst e2
    refine ⟨_, rfl, wpAny_letOwnedTupleGo_zip (s := { s with heap := g, toks := tk }) z1 fun g2 z2 sb => ?_⟩
    have kp2 : ∀ a o, a ∉ [z, TI, TO, i1, i2] → s.heap.get? a = some o → g2.get? a = some o := fun a o ha e => by
      simp only [List.mem_cons, List.not_mem_nil, or_false, not_or] at ha
      exact (sb.2 a ha.1).trans (kp a o ha.1 ha.2.2.1 ha.2.2.2.1 ha.2.2.2.2 e)
    have new2 : IsTupOf2 g2 s.heap.objs.size (.str ⟨#[c]⟩ tu) x2 := (sb.2 _ (Nat.ne_of_gt zl)).trans new
    have ob : ObjOk X.prog X.w (upd H s.heap.objs.size (.tup [.str ⟨#[c]⟩, y])) g2 s.heap.objs.size (.tup [.str ⟨#[c]⟩, y]) :=
      ⟨by show 2 ≤ sizeLine; decide, _, .cons ⟨tu, rfl⟩ (.cons ru .nil), ⟨_, new2, rfl, _, rfl⟩⟩
    refine ⟨.ref s.heap.objs.size, _, I.turnedNew (t' := tk) (ch := [z, TI, TO, i1, i2]) kp2 hf (Nat.le_refl _) ob, rfl, ⟨_, c, y, rfl, I.hok.fresh (Nat.le_refl _), rfl, hxc, fun l hl => ?_⟩, ⟨z2, ?_, ⟨_, _, (sb.2 _ D.TOz).trans o1⟩, ?_, ?_⟩, fun a ha => ?_⟩
    · rw [I.tuple_inj hl hy]; exact hyi
    · exact (sb.2 _ D.TIz).trans (kp _ _ D.TIz D.TITO D.TIi1 D.TIi2 hTI)
    · obtain ⟨o, e, r⟩ := d1
      exact ⟨o, (sb.2 _ D.zi1.symm).trans e, r⟩
    · exact d2.1.at fun o e => (sb.2 _ D.zi2.symm).trans e
    · have al : a < s.heap.objs.size := by
        simp only [List.mem_cons, List.not_mem_nil, or_false] at ha
        obtain ⟨oa, ea, _⟩ := h1
        obtain ⟨ob, eb, _⟩ := h2
        rcases ha with rfl | rfl | rfl | rfl | rfl
        · exact zl
        · exact Heap.lt_size hTI
        · exact Heap.lt_size hTO
        · exact Heap.lt_size ea
        · exact Heap.lt_size eb
      rw [upd_ne (Nat.ne_of_lt al)]
      exact (hf a ha).1
  done := by
    intro X hP hw hK hc i pins s σ H E I hf st hg
    subst hP hw hK
    obtain ⟨hz, hTI, ⟨p0, q0, hTO⟩, h1, h2⟩ := st
    obtain ⟨hi, ys, hy, hle, hend⟩ := hg
    obtain ⟨its, rv, tp, _⟩ := I.tuple hy
    have ly := rv.length
    have D1 := Draws.text (prog := X.prog) (w := X.w) (A := X.A.in1) (I.ok.hd hc : X.A.in1.handled = none) i1 x t
    have D2 := Draws.tuple (prog := X.prog) (w := X.w) (A := X.A.in1) (I.ok.hd hc : X.A.in1.handled = none) i2 b hb2 its.toArray
    refine wpAny_pyNext_zipD2_end D D1 D2 hz hTI hTO h1 ⟨h2, tp⟩ hi (by simp; omega) (by simp; omega) fun g tk kp => ⟨rfl, I.turnedL (t' := tk) (ch := [z, TI, TO, i1, i2]) (fun a o ha e => ?_) hf⟩
    simp only [List.mem_cons, List.not_mem_nil, or_false, not_or] at ha
    exact kp a o ha.1 ha.2.2.1 ha.2.2.2.1 ha.2.2.2.2 e
  self := fun A i s Q E st h => wpAny_pyIter_zip st.1 h
/-! ### its walk, its call -/
theorem walk_st {K : PySem.W.Frag} {x : Str} {b : Addr} {ys : List V} : Walk (Itst K x b) (min x.cps.size ys.length) (fun H => SqT K H b ys) (YPair (fun i => x.cps[i]?.map fun c => V.str ⟨#[c]⟩) (fun i => ys[i]?)) := by
  refine ⟨fun i H hi q => ?_, fun H q => ?_, fun i H v H' hi q y => ?_⟩
  · have h1 : i < ys.length := by omega
    exact ⟨by omega, ys, ys[i], q, List.getElem?_eq_getElem h1⟩
  · refine ⟨by omega, ys, q, by omega, by omega⟩
  · obtain ⟨T, c, y, e1, e2, e3, e4, e5⟩ := y
    exact ⟨T, _, y, e1, e2, e3, by simp [e4], e5 ys q⟩
theorem sep_st (n b : Nat) (h : b < n) : ZipSep2 (n + 4) (n + 2) (n + 3) n (n + 1) [n] [n + 1, b] := by
  have ne : ∀ p q : Nat, p ≠ q → ¬ ((p : Addr) = (q : Addr)) := fun p q h => h
  have n1 : ∀ p q : Nat, p ≠ q → (p : Addr) ∉ [(q : Addr)] := fun p q h z => by simp at z; exact h z
  have n2 : ∀ p q r : Nat, p ≠ q → p ≠ r → (p : Addr) ∉ [(q : Addr), r] := fun p q r h h' z => by simp at z; exact z.elim h h'
  exact ⟨ne _ _ (by omega), ne _ _ (by omega), ne _ _ (by omega), ne _ _ (by omega), by simp, n1 _ _ (by omega), n1 _ _ (by omega), ne _ _ (by omega), by simp, n2 _ _ _ (by omega) (by omega), n2 _ _ _ (by omega) (by omega), n2 _ _ _ (by omega) (by omega), n1 _ _ (by omega)⟩
def iZipST (K : PySem.W.Frag) (ta : TA) : TI := fun σ H R => ta σ H fun vs H1 => ∃ x b ys, vs = [.str x, .ref b] ∧ SqT K H1 b ys ∧ R (Itst K x b) H1
theorem pi_zipST {X : Cx} {e e2 : Expr} {ta : TA} {p pos tpos : Pos} {elts : List Expr} {kk : Nat} (hg : Gl X "zip") (hm : X.mg "zip" = none) (ha : PA X [e, e2] ta)
    (hs : starEach [e, e2] X.env = (false, eval e X.env) :: starEach [e2] X.env) (hpl : (backTo pos (starEach [e2] X.env)).any (·.1) = false) :
    PI X (.Tuple elts kk tpos) (.Call (.Name "zip" p) [e, e2] [] pos) (iZipST X.K ta) := by
  refine ⟨fun pins s σ H R I h => ?_⟩
  refine Call_ (ld_blt I hg hm PyProof.Rows.boot_zip (PyProof.Rows.callWith_type1 (thn (ha.run pos pins s σ H _ I h) fun us s1 ⟨vs, H1, I1, r1, x, b, ys, ex, hy, q⟩ => ?_) hs hpl))
  subst ex
  cases r1 with
  | cons r rr =>
    cases rr with
    | cons r' rr =>
      cases rr
      obtain ⟨t, rfl⟩ := r
      cases r'
      obtain ⟨its, rv, tp, _⟩ := I1.tuple hy
      obtain ⟨ob, eb, _⟩ := id tp
      refine zip_begins2 (begins_text x t) (begins_tuple b its.toArray) trivial tp fun g gz gTI gTO g1 g2 _ kp => wpAny_pyIter_zip gz ?_
      refine ⟨s1.heap.objs.size + 4, _, _, _, H1, rfl, I1.kept (t' := s1.toks) kp, turn_st (x := x) (t := t) (sep_st _ b (Heap.lt_size eb)) (fun z => ?_), ⟨gz, gTI, ⟨_, _, gTO⟩, ⟨_, g1, rfl, rfl⟩, ⟨_, g2, rfl, rfl⟩⟩, fun a ha => ?_, q⟩
      · exact absurd z (Nat.ne_of_lt (Nat.lt_succ_of_lt (Heap.lt_size eb)))
      · have le : s1.heap.objs.size ≤ a := by
          have gen : ∀ k : Nat, a = s1.heap.objs.size + k → s1.heap.objs.size ≤ a := fun k z => by rw [z]; exact Nat.le_add_right _ _
          simp only [List.mem_cons, List.not_mem_nil, or_false] at ha
          rcases ha with z | z | z | z | z
          · exact gen 4 z
          · exact gen 2 z
          · exact gen 3 z
          · exact gen 0 z
          · exact gen 1 z
        exact I1.fpOk le (I1.hok.fresh le)
end FJ

/-! Targets, what is walked, comprehensions. -/
namespace FJ
open PySem L2

def Pput (P : Nat → Addr → Prop) (i : Nat) (A : Addr → Prop) : Nat → Addr → Prop := fun j a => (j = i ∧ A a) ∨ (j ≠ i ∧ P j a)
def Pout (P : Nat → Addr → Prop) (vs : List Nat) : Nat → Addr → Prop := fun j a => j ∉ vs ∧ P j a
section
variable {C : Ct} {G H G' H' G1 H1 : Hp} {P P' P1 P2 : Nat → Addr → Prop} {r r' : Env} {σ σ' : St} {A B : Addr → Prop} {x : Val} {v : V} {t : T} {d : D} {Q : VK}
theorem Sst.put (st : Sst C G H P r σ) {i : Nat} (o : Own C G H t v A) (hd : ∀ j a, A a → j ≠ i → ¬ P j a) (hi : i < σ.length) : Sst C G H (Pput P i A) (r.set i (some t)) (σ.set i (some v)) where
  len := by rw [List.length_set, List.length_set]; exact st.len
  gh := st.gh
  sl := fun j t' h => by
    rcases getSet h with ⟨rfl, ht, hl⟩ | ⟨hne, h⟩
    · cases ht
      refine ⟨v, List.getElem?_set_self hi, ?_⟩
      have : Pput P i A i = A := by
        funext a
        exact propext ⟨fun h => h.elim (fun h => h.2) fun h => (h.1 rfl).elim, fun h => .inl ⟨rfl, h⟩⟩
      rw [this]; exact o
    · obtain ⟨w, h1, h2⟩ := st.sl j t' h
      refine ⟨w, by rw [List.getElem?_set_ne hne]; exact h1, ?_⟩
      have : Pput P i A j = P j := by
        funext a
        exact propext ⟨fun h => h.elim (fun h => (hne h.1.symm).elim) fun h => h.2, fun h => .inr ⟨hne.symm, h⟩⟩
      rw [this]; exact h2
  pe := fun j a h => by
    rcases h with ⟨rfl, h⟩ | ⟨hne, h⟩
    · exact ⟨t, List.getElem?_set_self (by rw [st.len]; exact hi)⟩
    · obtain ⟨t', h'⟩ := st.pe j a h
      exact ⟨t', by rw [List.getElem?_set_ne (Ne.symm hne)]; exact h'⟩
  dj := fun j k a h1 h2 => by
    rcases h1 with ⟨rfl, h1⟩ | ⟨n1, h1⟩ <;> rcases h2 with ⟨rfl, h2⟩ | ⟨n2, h2⟩
    · rfl
    · exact (hd k a h1 n2 h2).elim
    · exact (hd j a h2 n1 h1).elim
    · exact st.dj j k a h1 h2
theorem Sst.big (st : Sst C G H P r σ) {i : Nat} (h : σ.length ≤ i) {A : Addr → Prop} (hA : ∀ a, ¬ A a) : Pput P i A = P := by
  funext j a
  refine propext ⟨fun h => h.elim (fun h => (hA a h.2).elim) fun h => h.2, fun hp => .inr ⟨?_, hp⟩⟩
  rintro rfl
  obtain ⟨t, ht⟩ := st.pe j a hp
  have := ltOf ht
  rw [st.len] at this; omega
theorem Sst.putF (st : Sst C G H P r σ) (i : Nat) (h : Rep C G d v) : Sst C G H (Pput P i fun _ => False) (r.set i (some (.fr d))) (σ.set i (some v)) := by
  by_cases hi : i < σ.length
  · exact st.put (.fr h fun _ z => z) (fun _ _ z => z.elim) hi
  · have hi' : σ.length ≤ i := by omega
    rw [List.set_eq_of_length_le hi', List.set_eq_of_length_le (by rw [st.len]; exact hi'), st.big hi' fun _ z => z]
    exact st
theorem Pput_sub {i : Nat} : ∀ (j : Nat) (a : Addr), Pput P i (fun _ => False) j a → P j a := fun _ _ h => h.elim (fun h => h.2.elim) fun h => h.2
theorem Stp.setP (s : Stp G H P G' H' P') (h : ∀ j a, P2 j a → P' j a ∨ (∃ j, P j a) ∨ H a = none) : Stp G H P G' H' P2 :=
  ⟨s.gg, s.kp, s.ld, fun i a hp => (h i a hp).elim (fun z => s.pp i a z) id, s.gn⟩
theorem Stp.sub (s : Stp G H P G' H' P') (h : ∀ j a, P2 j a → P' j a) : Stp G H P G' H' P2 := s.setP fun j a hp => .inl (h j a hp)
theorem Stp.updN (s : Stp G H P G' H' P') {D : Addr} {o : HO} (h : H D = none) : Stp G H P G' (upd H' D o) P' where
  gg := s.gg
  kp := fun a u e n => by rw [upd_ne (ne_of_none e h)]; exact s.kp a u e n
  ld := fun a e => by
    by_cases ha : a = D
    · rw [ha]; exact h
    · rw [upd_ne ha] at e; exact s.ld a e
  pp := s.pp
  gn := s.gn
theorem Sst.updD (st : Sst C G H P r σ) {D : Addr} {o : HO} (hG : G D = none) (hP : ∀ j, ¬ P j D) : Sst C G (upd H D o) P r σ where
  len := st.len
  gh := fun a u e => by rw [upd_ne (ne_of_none e hG)]; exact st.gh a u e
  sl := fun i t e => by
    obtain ⟨v, h1, h2⟩ := st.sl i t e
    refine ⟨v, h1, Own.mono (Same.refl G) h2 (fun a h => (Own.dom h2 h).1) fun a u ha e => ?_⟩
    rw [upd_ne (fun z => hP i (by rw [← z]; exact ha))]; exact e
  pe := st.pe
  dj := st.dj
/-- what nobody has of the frame stays as it is -/
theorem Stp.stays (s : Stp G H P G' H' P') {a : Addr} {o : HO} (h : H a = some o) (n : ∀ j, ¬ P j a) (hG : G a = none) : H' a = some o ∧ G' a = none ∧ ∀ j, ¬ P' j a := by
  refine ⟨s.kp a o h n, ?_, fun j hj => ?_⟩
  · by_cases hg : G' a = none
    · exact hg
    · exact (s.gn a hG hg).elim (fun ⟨j, hj⟩ => (n j hj).elim) fun z => by rw [h] at z; cases z
  · exact (s.pp j a hj).elim (fun ⟨j, hj⟩ => (n j hj).elim) fun z => by rw [h] at z; cases z
theorem Own.stays (s : Stp G H P G' H' P') (o : Own C G H t v A) (n : ∀ j a, A a → ¬ P j a) : Own C G' H' t v A ∧ ∀ j a, A a → ¬ P' j a := by
  refine ⟨Own.mono s.gg o (fun a ha => ?_) (fun a u ha e => s.kp a u e fun j => n j a ha), fun j a ha => ?_⟩
  · obtain ⟨h1, h2⟩ := Own.dom o ha
    cases e : H a with
    | none => exact (h2 e).elim
    | some u => exact (s.stays e (fun j => n j a ha) h1).2.1
  · obtain ⟨h1, h2⟩ := Own.dom o ha
    cases e : H a with
    | none => exact (h2 e).elim
    | some u => exact (s.stays e (fun j => n j a ha) h1).2.2 j

/-! ### slots wiped, laid back -/
theorem wipe_in {σ : St} {i : Nat} : ∀ {vs : List Nat}, i ∈ vs → (wipe σ vs)[i]? = if i < σ.length then some none else none
  | v :: vs, h => by
    unfold wipe
    by_cases e : v = i
    · subst e
      by_cases hl : v < σ.length
      · rw [List.getElem?_set_self (by rw [wipe_length]; exact hl), if_pos hl]
      · rw [if_neg hl, List.getElem?_eq_none]; rw [List.length_set, wipe_length]; omega
    · rw [List.getElem?_set_ne e]
      exact wipe_in (by simpa [Ne.symm e] using h)
theorem wipe_out {σ : St} {i : Nat} : ∀ {vs : List Nat}, i ∉ vs → (wipe σ vs)[i]? = σ[i]?
  | [], _ => rfl
  | v :: vs, h => by
    unfold wipe
    have h1 : v ≠ i := fun z => h (by rw [z]; exact List.mem_cons_self)
    rw [List.getElem?_set_ne h1]
    exact wipe_out fun z => h (List.mem_cons_of_mem _ z)
theorem wipeE_eq : ∀ (vs : List Nat) (r : Env), (wipeE vs r).length = r.length ∧ ∀ i, (i ∉ vs → (wipeE vs r)[i]? = r[i]?) ∧ (i ∈ vs → ∀ t, (wipeE vs r)[i]? ≠ some (some t))
  | [], r => ⟨rfl, fun i => ⟨fun _ => rfl, fun h => by simp at h⟩⟩
  | v :: vs, r => by
    obtain ⟨l, h⟩ := wipeE_eq vs r
    unfold wipeE
    refine ⟨by rw [List.length_set]; exact l, fun i => ⟨fun hi => ?_, fun hi t e => ?_⟩⟩
    · have h1 : v ≠ i := fun z => hi (by rw [z]; exact List.mem_cons_self)
      rw [List.getElem?_set_ne h1]
      exact (h i).1 fun z => hi (List.mem_cons_of_mem _ z)
    · rcases getSet e with ⟨_, z, _⟩ | ⟨hne, e⟩
      · cases z
      · exact (h i).2 (by simpa [Ne.symm hne] using hi) t e
/-- outside of vs as it was -/
def Fr (vs : List Nat) (σ σ' : St) : Prop := σ'.length = σ.length ∧ ∀ i, i ∉ vs → σ'[i]? = σ[i]?
theorem Fr.refl {vs : List Nat} : Fr vs σ σ := ⟨rfl, fun _ _ => rfl⟩
theorem Fr.trans {vs ws : List Nat} {σ'' : St} (a : Fr vs σ σ') (b : Fr ws σ' σ'') : Fr (vs ++ ws) σ σ'' :=
  ⟨b.1.trans a.1, fun i h => (b.2 i fun z => h (List.mem_append_right _ z)).trans (a.2 i fun z => h (List.mem_append_left _ z))⟩
theorem Fr.set {i : Nat} {o : Option V} : Fr [i] σ (σ.set i o) := ⟨List.length_set, fun j h => List.getElem?_set_ne (by simpa using Ne.symm (by simpa using h))⟩
theorem Fr.wipe {vs : List Nat} (f : Fr vs σ σ') : L2.wipe σ' vs = L2.wipe σ vs := by
  apply List.ext_getElem?
  intro i
  by_cases h : i ∈ vs
  · rw [wipe_in h, wipe_in h, f.1]
  · rw [wipe_out h, wipe_out h, f.2 i h]
theorem Sst.wipe (st : Sst C G H P r σ) (vs : List Nat) : Sst C G H (Pout P vs) (wipeE vs r) (L2.wipe σ vs) where
  len := by rw [(wipeE_eq vs r).1, wipe_length]; exact st.len
  gh := st.gh
  sl := fun i t e => by
    by_cases h : i ∈ vs
    · exact (((wipeE_eq vs r).2 i).2 h t e).elim
    · rw [((wipeE_eq vs r).2 i).1 h] at e
      obtain ⟨v, h1, h2⟩ := st.sl i t e
      refine ⟨v, by rw [wipe_out h]; exact h1, ?_⟩
      have : Pout P vs i = P i := by
        funext a
        exact propext ⟨fun h => h.2, fun z => ⟨h, z⟩⟩
      rw [this]; exact h2
  pe := fun i a h => by
    obtain ⟨t, e⟩ := st.pe i a h.2
    exact ⟨t, by rw [((wipeE_eq vs r).2 i).1 h.1]; exact e⟩
  dj := fun i j a h1 h2 => st.dj i j a h1.2 h2.2
theorem backE_eq {r0 : Env} : ∀ (vs : List Nat) (r : Env), r.length = r0.length → (backE r0 vs r).length = r.length ∧ ∀ i, (i ∉ vs → (backE r0 vs r)[i]? = r[i]?) ∧ (i ∈ vs → (backE r0 vs r)[i]? = r0[i]?)
  | [], r, _ => ⟨rfl, fun i => ⟨fun _ => rfl, fun h => by simp at h⟩⟩
  | v :: vs, r, hl => by
    obtain ⟨l, h⟩ := backE_eq vs r hl
    unfold backE
    split
    · rename_i o ho
      refine ⟨by rw [List.length_set]; exact l, fun i => ⟨fun hi => ?_, fun hi => ?_⟩⟩
      · have h1 : v ≠ i := fun z => hi (by rw [z]; exact List.mem_cons_self)
        rw [List.getElem?_set_ne h1]
        exact (h i).1 fun z => hi (List.mem_cons_of_mem _ z)
      · by_cases e : v = i
        · subst e
          rw [List.getElem?_set_self (by rw [l, hl]; exact ltOf ho), ho]
        · rw [List.getElem?_set_ne e]
          exact (h i).2 (by simpa [Ne.symm e] using hi)
    · rename_i ho
      refine ⟨l, fun i => ⟨fun hi => (h i).1 fun z => hi (List.mem_cons_of_mem _ z), fun hi => ?_⟩⟩
      by_cases e : i ∈ vs
      · exact (h i).2 e
      · have : i = v := by simpa [e] using hi
        subst this
        rw [(h i).1 e, ho, List.getElem?_eq_none]
        rw [hl]
        exact List.getElem?_eq_none_iff.mp ho
theorem stillE_at : ∀ {vs : List Nat} {r : Env} {i : Nat} {t : T}, stillE r vs = true → i ∈ vs → r[i]? = some (some t) → ∃ d, t = .fr d
  | v :: vs, r, i, t, h, hi, e => by
    simp only [stillE, Bool.and_eq_true] at h
    by_cases hv : i = v
    · subst hv
      have h1 := h.1
      rw [e] at h1
      cases t with
      | fr d => exact ⟨d, rfl⟩
      | _ => cases h1
    · exact stillE_at h.2 (by simpa [hv] using hi) e
/-- behind a comprehension -/
theorem Sst.back {vs : List Nat} {r0 rf : Env} (st1 : Sst C G1 H1 P1 r0 σ) (hs : stillE r0 vs = true) (st : Sst C G H P rf (L2.wipe σ vs)) (s : Stp G1 H1 P1 G H P) : Sst C G H (Pout P vs) (backE r0 vs rf) σ := by
  have hl : rf.length = r0.length := by rw [st.len, st1.len, wipe_length]
  obtain ⟨l, be⟩ := backE_eq (r0 := r0) vs rf hl
  refine ⟨by rw [l, hl, st1.len], st.gh, fun i t e => ?_, fun i a h => ?_, fun i j a h1 h2 => st.dj i j a h1.2 h2.2⟩
  · by_cases h : i ∈ vs
    · rw [(be i).2 h] at e
      obtain ⟨d, rfl⟩ := stillE_at hs h e
      obtain ⟨v, h1, h2⟩ := st1.sl i _ e
      refine ⟨v, h1, ?_⟩
      cases h2 with
      | fr rp _ => exact .fr (Rep.mono s.gg rp) fun a z => z.1 h
    · rw [(be i).1 h] at e
      obtain ⟨v, h1, h2⟩ := st.sl i t e
      refine ⟨v, by rw [wipe_out h] at h1; exact h1, ?_⟩
      have : Pout P vs i = P i := by
        funext a
        exact propext ⟨fun h => h.2, fun z => ⟨h, z⟩⟩
      rw [this]; exact h2
  · obtain ⟨t, e⟩ := st.pe i a h.2
    exact ⟨t, by rw [(be i).1 h.1]; exact e⟩
/-- what is walked and hidden -/
def Hdn (C : Ct) (G H : Hp) (P : Nat → Addr → Prop) (P0 : Nat → Addr → Prop) (H0 : Hp) (σ : St) : Option (Nat × T) → Prop
  | none => True
  | some (i, t) => ∃ v A, σ[i]? = some (some v) ∧ Own C G H t v A ∧ (∀ j a, A a → ¬ P j a) ∧ ∀ a, A a → (∃ j, P0 j a) ∨ H0 a = none
theorem Sst.show {P0 : Nat → Addr → Prop} {H0 : Hp} {hid : Option (Nat × T)} (st : Sst C G H P r σ') (s : Stp G1 H1 P1 G H P) (h : Hdn C G1 H1 P1 P0 H0 σ hid) (hσ : ∀ i t, hid = some (i, t) → σ'[i]? = σ[i]?) :
    ∃ P3, Sst C G H P3 (showE hid r) σ' ∧ ∀ j a, P3 j a → P j a ∨ (H1 a ≠ none ∧ ((∃ j, P0 j a) ∨ H0 a = none)) := by
  cases hid with
  | none => exact ⟨P, st, fun j a z => .inl z⟩
  | some q =>
    obtain ⟨i, t⟩ := q
    obtain ⟨v, A, h1, h2, h3, h4⟩ := h
    obtain ⟨o, n⟩ := Own.stays s h2 h3
    have e := (hσ i t rfl).trans h1
    have st2 := st.put o (fun j a ha _ => n j a ha) (ltOf e)
    have : σ'.set i (some v) = σ' := by
      apply List.ext_getElem?
      intro j
      by_cases hj : i = j
      · subst hj
        rw [List.getElem?_set_self (ltOf e), e]
      · rw [List.getElem?_set_ne hj]
    rw [this] at st2
    refine ⟨_, st2, fun j a z => ?_⟩
    rcases z with ⟨_, z⟩ | ⟨_, z⟩
    · exact .inr ⟨(Own.dom h2 z).2, h4 a z⟩
    · exact .inl z
end

/-! ### targets -/
def tG (C : Ct) (tg : Tg) : TG := fun v σ H Q => ∃ G P r d r', Sst C G H P r σ ∧ Rep C G d v ∧ tg.bind d r = some r' ∧ ∀ σ' P', Sst C G H P' r' σ' → (∀ j a, P' j a → P j a) → Fr tg.slots σ σ' → Q σ' H
def tGs (C : Ct) (tgs : List Tg) : TGs := fun vs σ H Q => ∃ G P r ds r', Sst C G H P r σ ∧ Reps C G ds vs ∧ Tg.binds tgs ds r = some r' ∧ ∀ σ' P', Sst C G H P' r' σ' → (∀ j a, P' j a → P j a) → Fr (Tg.slotss tgs) σ σ' → Q σ' H
theorem PGs.imp {X : Cx} {e : List Expr} {t t' : TGs} (h : PGs X e t) (k : ∀ v σ H Q, t' v σ H Q → t v σ H Q) : PGs X e t' := ⟨fun pins s σ H v u Q I r q => h.run pins s σ H v u Q I r (k v σ H Q q)⟩
theorem PTs.imp {X : Cx} {e : List Expr} {t t' : TT} (h : PTs X e t) (k : ∀ σ H Q, t' σ H Q → t σ H Q) : PTs X e t' := ⟨fun pins s σ H Q I q => h.run pins s σ H Q I (k σ H Q q)⟩
section
variable {X : Cx} {C : Ct} {pos p : Pos} {e : Expr} {es : List Expr} {tg : Tg} {tgs : List Tg}
theorem gg_name {i : Nat} {x : Str} (hN : X.N.Nodup) (hi : X.N[i]? = some x) (hx : Loc X.env.scope x) (hf : X.fn x = true ∨ X.env.scope.names.lookup x = some .local) : PG X (.Name x pos) (tG C (.name i)) := by
  refine PG.imp (pg_name hN hi hx hf) fun v σ H Q ⟨G, P, r, d, r', st, rp, e, k⟩ => ?_
  simp only [Tg.bind] at e
  cases e
  exact k _ _ (st.putF i rp) Pput_sub (by simp only [Tg.slots]; exact Fr.set)
theorem ggs_nil : PGs X [] (tGs C []) := by
  refine PGs.imp pgs_nil fun v σ H Q ⟨G, P, r, ds, r', st, rp, e, k⟩ => ?_
  cases rp with
  | nil =>
    simp only [Tg.binds] at e
    cases e
    exact ⟨rfl, k σ P st (fun _ _ h => h) Fr.refl⟩
  | cons _ _ => simp only [Tg.binds] at e; cases e
theorem assign_cons (h : notStar e = true) : (assignEach (e :: es) X.env).map (·.2) = assign e X.env :: (assignEach es X.env).map (·.2) := by
  cases e <;> first | rfl | (simp [notStar] at h)
theorem assign_facts : ∀ {es : List Expr}, noStars es = true → (assignEach es X.env).length = es.length ∧ (assignEach es X.env).findIdx? (·.1) = none := by
  intro es
  induction es with
  | nil => intro _; exact ⟨rfl, rfl⟩
  | cons e es ih =>
    intro h
    simp only [noStars, List.all_cons, Bool.and_eq_true] at h
    obtain ⟨h1, h2⟩ := ih (by unfold noStars; exact h.2)
    have hs : assignEach (e :: es) X.env = (false, assign e X.env) :: assignEach es X.env := by
      cases e <;> first | rfl | (simp [notStar] at h)
    rw [hs]
    refine ⟨by rw [List.length_cons, List.length_cons, h1], ?_⟩
    rw [List.findIdx?_cons]
    simp [h2]
theorem ggs_cons (hn : notStar e = true) (h1 : PG X e (tG C tg)) (h2 : PGs X es (tGs C tgs)) : PGs X (e :: es) (tGs C (tg :: tgs)) := by
  refine PGs.imp (pgs_cons h1 h2 (assign_cons hn)) fun v σ H Q ⟨G, P, r, ds, r', st, rp, e, k⟩ => ?_
  cases rp with
  | nil => simp only [Tg.binds] at e; cases e
  | cons a b =>
    simp only [Tg.binds] at e
    split at e
    · rename_i r2 hr
      exact ⟨_, _, rfl, G, P, r, _, r2, st, a, hr, fun σ2 P2 st2 s2 f2 => ⟨G, P2, r2, _, r', st2, b, e, fun σ3 P3 st3 s3 f3 => k σ3 P3 st3 (fun j a h => s2 j a (s3 j a h)) (by simp only [Tg.slotss]; exact f2.trans f3)⟩⟩
    · cases e
theorem binds_len : ∀ {tgs : List Tg} {ds : List D} {r r' : Env}, Tg.binds tgs ds r = some r' → tgs.length = ds.length
  | [], [], _, _, _ => rfl
  | [], _ :: _, _, _, e => by simp [Tg.binds] at e
  | _ :: _, [], _, _, e => by simp [Tg.binds] at e
  | t :: ts, d :: ds, r, r', e => by
    simp only [Tg.binds] at e
    split at e
    · simp [binds_len e]
    · cases e
theorem gg_tup {k : Nat} (hK : X.K = C.K) (hc : X.calm = true) (hn : noStars es = true) (hl : es.length = tgs.length) (h : PGs X es (tGs C tgs)) : PG X (.Tuple es k pos) (tG C (.tup tgs)) := by
  refine PG.imp (pg_tup hc h (assign_facts hn).1 (assign_facts hn).2) fun v σ H Q ⟨G, P, r, d, r', st, rp, e, k⟩ => ?_
  cases d with
  | tup ds =>
    simp only [Tg.bind] at e
    cases rp with
    | tup hp rs =>
      refine ⟨_, _, rfl, SqT.of (st.gh _ _ hp), ?_, G, P, r, ds, r', st, rs, e, fun σ' P' st' s' f => k σ' P' st' s' (by simp only [Tg.slots]; exact f)⟩
      rw [hl, binds_len e, Reps.length rs]
  | _ => simp only [Tg.bind] at e; cases e
end

/-! ### what is walked -/
structure Wk (C : Ct) (J : L2.It) (ds : List D) (Gd : Hp → Prop) (G0 : Hp) : Prop where
  ex : ∃ Y, Walk J ds.length Gd Y ∧ ∀ i H x H', i < ds.length → Y i H x H' → ∀ G, Same G0 G → Same G H → ∃ d G', ds[i]? = some d ∧ Grow G H G' H' ∧ Rep C G' d x
def tI (C : Ct) (it : FJ.It) : TI := fun σ H R => ∃ G P r ds hid r', Sst C G H P r σ ∧ evi it r = .ok ds hid r' ∧ ∀ J G' H' P' Gd, Sst C G' H' P' (hideE hid r') σ → Stp G H P G' H' P' → (it.pu = true → Same H H') → Wk C J ds Gd G' → Gd H' →
  (∀ G2 H2 P2, Stp G' H' P' G2 H2 P2 → Same G2 H2 → Gd H2) → Hdn C G' H' P' P H σ hid → R J H'
section
variable {X : Cx} {C : Ct} {G H : Hp} {K : PySem.W.Frag} {ds es : List D} {vs ws : List V} {a b : Addr}
theorem wk_at {J : L2.It} {Gd : Hp → Prop} (w : Walk J vs.length Gd (YAt vs)) (rs : Reps C G ds vs) : Wk C J ds Gd G := by
  refine ⟨YAt vs, by rw [Reps.length rs]; exact w, ?_⟩
  rintro i H x H' hi ⟨e1, e2⟩ G2 s1 s2
  obtain ⟨d, h1, h2⟩ := Reps.getV rs e2
  exact ⟨d, G2, h1, by rw [e1]; exact Grow.refl s2, Rep.mono s1 h2⟩
theorem wk_list (rs : Reps C G ds vs) : Wk C (Itl K a) ds (fun H => SqL K H a vs) G := wk_at walk_list rs
theorem wk_tup (rs : Reps C G ds vs) : Wk C (Itt K a) ds (fun H => SqT K H a vs) G := wk_at walk_tup rs
theorem wk_str (z : Str) : Wk C (Its z) (z.cps.toList.map fun c => .str ⟨#[c]⟩) (fun _ => True) G := by
  refine ⟨fun i H v H' => H' = H ∧ ∃ c, z.cps[i]? = some c ∧ v = .str ⟨#[c]⟩, by rw [List.length_map, Array.length_toList]; exact walk_str, ?_⟩
  rintro i H x H' hi ⟨e1, c, e2, e3⟩ G2 s1 s2
  refine ⟨.str ⟨#[c]⟩, G2, ?_, by rw [e1]; exact Grow.refl s2, by rw [e3]; exact .str⟩
  rw [List.getElem?_map, Array.getElem?_toList, e2]; rfl
theorem wk_range {lo : Int} {n : Nat} : Wk C (Itr lo n) ((List.range n).map fun (i : Nat) => .int (lo + i)) (fun _ => True) G := by
  refine ⟨YFn fun i => .int (lo + i), by rw [List.length_map, List.length_range]; exact walk_range, ?_⟩
  rintro i H x H' hi ⟨e1, e2⟩ G2 s1 s2
  rw [List.length_map, List.length_range] at hi
  refine ⟨.int (lo + i), G2, ?_, by rw [e1]; exact Grow.refl s2, by rw [e2]; exact .int⟩
  rw [List.getElem?_map, List.getElem?_range hi]; rfl
theorem enumD_len : ∀ (ds : List D) (k : Nat), (enumD k ds).length = ds.length
  | [], _ => rfl
  | _ :: ds, k => by simp [enumD, enumD_len ds (k + 1)]
theorem enumD_get : ∀ (ds : List D) (k i : Nat), (enumD k ds)[i]? = (ds[i]?).map fun d => .tup [.int (k + i : Nat), d]
  | [], _, _ => by simp [enumD]
  | d :: ds, k, 0 => by simp [enumD]
  | d :: ds, k, i + 1 => by
    have := enumD_get ds (k + 1) i
    simp only [enumD, List.getElem?_cons_succ, this]
    congr 1
    funext d
    congr 4
    omega
theorem pair_item {d1 d2 : D} {x y v : V} {H' : Hp} {t : Addr} (s : Same G H) (r1 : Rep C G d1 x) (r2 : Rep C G d2 y) (e1 : v = .ref t) (e2 : H t = none) (e3 : H' = upd H t (.tup [x, y])) : ∃ G', Grow G H G' H' ∧ Rep C G' (.tup [d1, d2]) v := by
  subst e1; subst e3
  refine ⟨upd G t (.tup [x, y]), Grow.nuF s e2, .tup upd_same (.cons ?_ (.cons ?_ .nil))⟩
  · exact Rep.mono (Same.nu (Same.no s e2)) r1
  · exact Rep.mono (Same.nu (Same.no s e2)) r2
theorem wk_enum (rs : Reps C G ds vs) : Wk C (Ite K a) (enumD 0 ds) (fun H => SqL K H a vs) G := by
  refine ⟨YPair (fun i => some (.int (i : Nat))) (fun i => vs[i]?), by rw [enumD_len, Reps.length rs]; exact walk_enum, ?_⟩
  rintro i H x H' hi ⟨t, y, z, e1, e2, e3, e4, e5⟩ G2 s1 s2
  cases e4
  obtain ⟨d, h1, h2⟩ := Reps.getV rs e5
  obtain ⟨G', g, rp⟩ := pair_item (C := C) s2 (.int (i := i)) (Rep.mono s1 h2) e1 e2 e3
  refine ⟨_, G', ?_, g, rp⟩
  rw [enumD_get, h1]
  simp
theorem zipD_len : ∀ (ds es : List D), (zipD ds es).length = min ds.length es.length
  | [], _ => by simp [zipD]
  | _ :: _, [] => by simp [zipD]
  | _ :: ds, _ :: es => by simp only [zipD, List.length_cons, zipD_len ds es]; omega
theorem zipD_get : ∀ {ds es : List D} {i : Nat} {d e : D}, ds[i]? = some d → es[i]? = some e → (zipD ds es)[i]? = some (.tup [d, e])
  | [], _, _, _, _, h, _ => by simp at h
  | _ :: _, [], _, _, _, _, h => by simp at h
  | _ :: _, _ :: _, 0, _, _, h1, h2 => by simp at h1 h2; subst h1; subst h2; rfl
  | _ :: ds, _ :: es, i + 1, _, _, h1, h2 => by
    simp only [zipD, List.getElem?_cons_succ]
    exact zipD_get (by simpa using h1) (by simpa using h2)
theorem wk_zip (rs : Reps C G ds vs) (rt : Reps C G es ws) : Wk C (Itz K a b) (zipD ds es) (fun H => SqL K H a vs ∧ SqL K H b ws) G := by
  refine ⟨YPair (fun i => vs[i]?) (fun i => ws[i]?), walk_zip (by rw [zipD_len, Reps.length rs, Reps.length rt]), ?_⟩
  rintro i H x H' hi ⟨t, y, z, e1, e2, e3, e4, e5⟩ G2 s1 s2
  obtain ⟨d, h1, h2⟩ := Reps.getV rs e4
  obtain ⟨d', h1', h2'⟩ := Reps.getV rt e5
  obtain ⟨G', g, rp⟩ := pair_item (C := C) s2 (Rep.mono s1 h2) (Rep.mono s1 h2') e1 e2 e3
  exact ⟨_, G', zipD_get h1 h1', g, rp⟩
theorem wk_zipST (z : Str) (rt : Reps C G es ws) : Wk C (Itst K z b) (zipD (z.cps.toList.map fun c => .str ⟨#[c]⟩) es) (fun H => SqT K H b ws) G := by
  refine ⟨YPair (fun i => z.cps[i]?.map fun c => V.str ⟨#[c]⟩) (fun i => ws[i]?), by rw [zipD_len, List.length_map, Array.length_toList, Reps.length rt]; exact walk_st, ?_⟩
  rintro i H x H' hi ⟨t, y, u, e1, e2, e3, e4, e5⟩ G2 s1 s2
  simp only at e4 e5
  obtain ⟨d', h1', h2'⟩ := Reps.getV rt e5
  cases hc : z.cps[i]? with
  | none => rw [hc] at e4; cases e4
  | some c =>
    rw [hc] at e4
    cases e4
    obtain ⟨G', g, rp⟩ := pair_item (C := C) s2 (.str (s := ⟨#[c]⟩)) (Rep.mono s1 h2') e1 e2 e3
    refine ⟨_, G', zipD_get ?_ h1', g, rp⟩
    rw [List.getElem?_map, Array.getElem?_toList, hc]; rfl
theorem SqL.mono {H' : Hp} (s : Same H H') (h : SqL K H a vs) : SqL K H' a vs := Same.seq s h
end
section
variable {X : Cx} {C : Ct} {e e2 tg : Expr} {es : List Expr} {ee ee2 : E} {ees : Es} {p pos tpos : Pos}
theorem gi_lst (hK : X.K = C.K) (he : PE X e (tE C ee)) : PI X tg e (tI C (.lst ee)) := by
  refine PI.imp (FJ.PI.or' (pi_list he) (FJ.PI.or' (pi_tup he) (pi_str he))) fun σ H R ⟨G, P, r, ds, hid, r', st, e, k⟩ => ?_
  simp only [evi] at e
  split at e
  · rename_i t r1 h1
    split at e
    · rename_i ds2 hs
      cases e
      have main : ∀ (K : V → Hp → Prop), (∀ G1 P1 H1 v, Sst C G1 H1 P1 r' σ → Stp G H P G1 H1 P1 → Rep C G1 t.toD v → (ee.pu = true → Same H H1) → K v H1) → tE C ee σ H K := fun K hk => tE_settle st h1 fun v1 G1 P1 H1 st1 s1 rp p1 => hk G1 P1 H1 v1 st1 s1 rp p1
      have fin : ∀ J G1 P1 H1 Gd, Sst C G1 H1 P1 r' σ → Stp G H P G1 H1 P1 → (ee.pu = true → Same H H1) → Wk C J ds Gd G1 → (∀ G2 H2, Same G1 G2 → Same G2 H2 → Gd H2) → R J H1 := fun J G1 P1 H1 Gd st1 s1 p1 wk gd =>
        k J G1 H1 P1 Gd st1 s1 p1 wk (gd G1 H1 (Same.refl _) st1.gh) (fun G2 H2 P2 s2 g2 => gd G2 H2 s2.gg g2) trivial
      generalize ht : t.toD = d at *
      cases d with
      | scr ns =>
        cases hs
        refine .inl (main _ fun G1 P1 H1 v st1 s1 rp p1 => ?_)
        cases rp with
        | scr h =>
          have h' := h
          rw [← hK] at h
          exact ⟨_, rfl, ⟨_, Same.seq st1.gh h⟩, fin _ G1 P1 H1 _ st1 s1 p1 (wk_list (ints_reps ns)) fun G2 H2 g1 g2 => Same.seq g2 (Same.seq g1 h)⟩
      | lst xs =>
        cases hs
        refine .inl (main _ fun G1 P1 H1 v st1 s1 rp p1 => ?_)
        cases rp with
        | lst h rs => exact ⟨_, rfl, ⟨_, SqL.of (st1.gh _ _ h)⟩, fin _ G1 P1 H1 _ st1 s1 p1 (wk_list rs) fun G2 H2 g1 g2 => SqL.of (g2 _ _ (g1 _ _ h))⟩
      | tup xs =>
        cases hs
        refine .inr (.inl (main _ fun G1 P1 H1 v st1 s1 rp p1 => ?_))
        cases rp with
        | tup h rs => exact ⟨_, rfl, ⟨_, SqT.of (st1.gh _ _ h)⟩, fin _ G1 P1 H1 _ st1 s1 p1 (wk_tup rs) fun G2 H2 g1 g2 => SqT.of (g2 _ _ (g1 _ _ h))⟩
      | str z =>
        cases hs
        refine .inr (.inr (main _ fun G1 P1 H1 v st1 s1 rp p1 => ?_))
        cases rp with
        | str => exact ⟨z, rfl, fin _ G1 P1 H1 _ st1 s1 p1 (wk_str z) fun _ _ _ _ => trivial⟩
      | _ => cases hs
    · cases e
  · rename_i i xs r1 h1
    split at e
    · rename_i xs' hr
      cases e
      refine .inl (tE_at st h1 fun v G1 H1 P1 A st1 s1 res hA hp => ?_)
      obtain ⟨_, B, o, hB⟩ := res
      obtain ⟨w, hw, ow⟩ := st1.sl i _ hr
      cases o with
      | ow o1 o2 o3 o4 =>
        cases ow with
        | ow q1 q2 q3 q4 =>
          have hp1 := hB _ ((o4 _).mpr rfl)
          have he := (q4 _).mp hp1
          subst he
          cases o3 with
          | lst rs =>
            have st2 : Sst C G1 H1 (Pno P1 i) (hideE (some (i, .ow (.lst ds))) r') σ := by
              refine ⟨by simp only [hideE]; rw [List.length_set]; exact st1.len, st1.gh, fun j t hj => ?_, fun j a hj => ?_, fun j k a h1 h2 => st1.dj j k a h1.2 h2.2⟩
              · simp only [hideE] at hj
                rcases getSet hj with ⟨_, z, _⟩ | ⟨hne, hj⟩
                · cases z
                · obtain ⟨u, h1, h2⟩ := st1.sl j t hj
                  refine ⟨u, h1, ?_⟩
                  have : Pno P1 i j = P1 j := by
                    funext a
                    exact propext ⟨fun h => h.2, fun h => ⟨hne.symm, h⟩⟩
                  rw [this]; exact h2
              · obtain ⟨t, ht⟩ := st1.pe j a hj.2
                exact ⟨t, by simp only [hideE]; rw [List.getElem?_set_ne (Ne.symm hj.1)]; exact ht⟩
            have hno : ∀ j, ¬ Pno P1 i j _ := fun j z => z.1 (st1.dj _ _ _ z.2 hp1)
            refine ⟨_, rfl, ⟨_, SqL.of o1⟩, k _ G1 H1 (Pno P1 i) _ st2 (s1.sub fun _ _ z => z.2) hp (wk_list rs) (SqL.of o1) (fun G2 H2 P2 s2 g2 => SqL.of (s2.kp _ _ o1 hno)) ?_⟩
            refine ⟨_, P1 i, hw, .ow o1 q2 (.lst rs) q4, fun j a ha z => z.1 (st1.dj _ _ _ z.2 ha), fun a ha => s1.pp i a ha⟩
    · cases e
  · cases e
theorem gi_lstf (hK : X.K = C.K) (he : PE X e (tE C ee)) : PI X tg e (tI C (.lstf ee)) := by
  refine PI.imp (FJ.PI.or' (pi_list he) (FJ.PI.or' (pi_tup he) (pi_str he))) fun σ H R ⟨G, P, r, ds, hid, r', st, e, k⟩ => ?_
  simp only [evi] at e
  split at e
  · rename_i x r1 h1
    split at e
    · rename_i ds2 hs
      cases e
      have main : ∀ (K : V → Hp → Prop), (∀ G1 P1 H1 v, Sst C G1 H1 P1 (useE false x r1) σ → Stp G H P G1 H1 P1 → Rep C G1 x.toD v → (ee.pu = true → Same H H1) → K v H1) → tE C ee σ H K := fun K hk => tE_settle st h1 fun v1 G1 P1 H1 st1 s1 rp p1 => hk G1 P1 H1 v1 st1 s1 rp p1
      have fin : ∀ J G1 P1 H1 Gd, Sst C G1 H1 P1 (useE false x r1) σ → Stp G H P G1 H1 P1 → (ee.pu = true → Same H H1) → Wk C J ds Gd G1 → (∀ G2 H2, Same G1 G2 → Same G2 H2 → Gd H2) → R J H1 := fun J G1 P1 H1 Gd st1 s1 p1 wk gd =>
        k J G1 H1 P1 Gd st1 s1 p1 wk (gd G1 H1 (Same.refl _) st1.gh) (fun G2 H2 P2 s2 g2 => gd G2 H2 s2.gg g2) trivial
      generalize ht : x.toD = d at *
      cases d with
      | scr ns =>
        cases hs
        refine .inl (main _ fun G1 P1 H1 v st1 s1 rp p1 => ?_)
        cases rp with
        | scr h =>
          have h' := h
          rw [← hK] at h
          exact ⟨_, rfl, ⟨_, Same.seq st1.gh h⟩, fin _ G1 P1 H1 _ st1 s1 p1 (wk_list (ints_reps ns)) fun G2 H2 g1 g2 => Same.seq g2 (Same.seq g1 h)⟩
      | lst xs =>
        cases hs
        refine .inl (main _ fun G1 P1 H1 v st1 s1 rp p1 => ?_)
        cases rp with
        | lst h rs => exact ⟨_, rfl, ⟨_, SqL.of (st1.gh _ _ h)⟩, fin _ G1 P1 H1 _ st1 s1 p1 (wk_list rs) fun G2 H2 g1 g2 => SqL.of (g2 _ _ (g1 _ _ h))⟩
      | tup xs =>
        cases hs
        refine .inr (.inl (main _ fun G1 P1 H1 v st1 s1 rp p1 => ?_))
        cases rp with
        | tup h rs => exact ⟨_, rfl, ⟨_, SqT.of (st1.gh _ _ h)⟩, fin _ G1 P1 H1 _ st1 s1 p1 (wk_tup rs) fun G2 H2 g1 g2 => SqT.of (g2 _ _ (g1 _ _ h))⟩
      | str z =>
        cases hs
        refine .inr (.inr (main _ fun G1 P1 H1 v st1 s1 rp p1 => ?_))
        cases rp with
        | str => exact ⟨z, rfl, fin _ G1 P1 H1 _ st1 s1 p1 (wk_str z) fun _ _ _ _ => trivial⟩
      | _ => cases hs
    · cases e
  · cases e
def Es.len : Es → Nat
  | .nil => 0
  | .cons _ es => es.len + 1
theorem evu_len : ∀ {es : Es} {r r' : Env} {ds : List D}, evu es r = .ok ds r' → ds.length = es.len
  | .nil, r, r', ds, h => by simp only [evu] at h; cases h; rfl
  | .cons e es, r, r', ds, h => by
    simp only [evu] at h
    split at h
    · split at h
      · rename_i ds2 r2 h2
        cases h
        simp [Es.len, evu_len h2]
      · cases h
    · cases h
theorem gi_rng1 (hg : Gl X "range") (hm : X.mg "range" = none) (hn : notStar e = true) (he : PE X e (tE C ee)) : PI X tg (.Call (.Name "range" p) [e] [] pos) (tI C (.rng (.cons ee .nil))) := by
  refine PI.imp (pi_range1 hg hm (gu_cons hn he gu_nil) (star_cons hn)) fun σ H R ⟨G, P, r, ds, hid, r', st, e, k⟩ => ?_
  simp only [evi] at e
  split at e
  · rename_i xs r1 h1
    split at e
    · rename_i ds2 hs
      cases e
      have hl := evu_len h1
      refine ⟨G, P, r, xs, _, st, h1, fun vs G1 H1 P1 st1 s1 ps p1 => ?_⟩
      simp only [rngD] at hs
      split at hs
      · split at hs
        · rename_i n hn
          cases hs
          obtain ⟨v, rfl, u⟩ := one_of ps
          cases u.int
          refine ⟨n, rfl, by omega, by omega, k _ G1 H1 P1 (fun _ => True) st1 s1 p1 ?_ trivial (fun _ _ _ _ _ => trivial) trivial⟩
          have w := wk_range (C := C) (G := G1) (lo := 0) (n := n.toNat)
          simpa using w
        · cases hs
      · simp [Es.len] at hl
      · cases hs
    · cases e
  · cases e
theorem gi_rng2 (hg : Gl X "range") (hm : X.mg "range" = none) (hn : notStar e = true) (hn2 : notStar e2 = true) (he : PE X e (tE C ee)) (he2 : PE X e2 (tE C ee2)) : PI X tg (.Call (.Name "range" p) [e, e2] [] pos) (tI C (.rng (.cons ee (.cons ee2 .nil)))) := by
  refine PI.imp (pi_range2 hg hm (gu_cons hn he (gu_cons hn2 he2 gu_nil)) (by rw [star_cons hn, star_cons hn2]; rfl) (by rw [star_cons hn2]; rfl)) fun σ H R ⟨G, P, r, ds, hid, r', st, e, k⟩ => ?_
  simp only [evi] at e
  split at e
  · rename_i xs r1 h1
    split at e
    · rename_i ds2 hs
      cases e
      have hl := evu_len h1
      refine ⟨G, P, r, xs, _, st, h1, fun vs G1 H1 P1 st1 s1 ps p1 => ?_⟩
      simp only [rngD] at hs
      split at hs
      · simp [Es.len] at hl
      · split at hs
        · rename_i n m hn
          cases hs
          obtain ⟨v, w, rfl, u, u2⟩ := two_of ps
          cases u.int; cases u2.int
          exact ⟨n, m, rfl, ⟨by omega, by omega, by omega, by omega⟩, k _ G1 H1 P1 (fun _ => True) st1 s1 p1 wk_range trivial (fun _ _ _ _ _ => trivial) trivial⟩
        · cases hs
      · cases hs
    · cases e
  · cases e
theorem gi_enu {elts : List Expr} {kk : Nat} (hK : X.K = C.K) (hg : Gl X "enumerate") (hm : X.mg "enumerate" = none) (hn : notStar e = true) (he : PE X e (tE C ee)) : PI X (.Tuple elts kk tpos) (.Call (.Name "enumerate" p) [e] [] pos) (tI C (.enu ee)) := by
  refine PI.imp (pi_enum hg hm (pa_cons he pa_nil (star_cons hn)) (star_cons hn)) fun σ H R ⟨G, P, r, ds, hid, r', st, e, k⟩ => ?_
  simp only [evi] at e
  split at e
  · rename_i x r1 h1
    split at e
    · rename_i xs hx
      cases e
      refine tE_settle st h1 fun v1 G1 P1 H1 st1 s1 rp p1 => ?_
      rw [hx] at rp
      cases rp with
      | lst h rs => exact ⟨_, _, rfl, SqL.of (st1.gh _ _ h), k _ G1 H1 P1 _ st1 s1 p1 (wk_enum rs) (SqL.of (st1.gh _ _ h)) (fun G2 H2 P2 s2 g2 => SqL.of (g2 _ _ (s2.gg _ _ h))) trivial⟩
    · cases e
  · cases e
theorem gi_zip {elts : List Expr} {kk : Nat} (hK : X.K = C.K) (hg : Gl X "zip") (hm : X.mg "zip" = none) (hn : notStar e = true) (hn2 : notStar e2 = true) (he : PE X e (tE C ee)) (he2 : PE X e2 (tE C ee2)) :
    PI X (.Tuple elts kk tpos) (.Call (.Name "zip" p) [e, e2] [] pos) (tI C (.zip ee ee2)) := by
  have pa := pa_cons he (pa_cons he2 pa_nil (star_cons hn2)) (star_cons hn)
  refine PI.imp (FJ.PI.or' (pi_zip hg hm pa (star_cons hn) (star_no (by simp [noStars, hn2]))) (pi_zipST hg hm pa (star_cons hn) (star_no (by simp [noStars, hn2])))) fun σ H R ⟨G, P, r, ds, hid, r', st, e, k⟩ => ?_
  simp only [evi] at e
  split at e
  · rename_i x r1 h1
    split at e
    · rename_i y r2 h2
      have main : ∀ K : List V → Hp → Prop, (∀ v1 v2 G2 H2 P2, Sst C G2 H2 P2 (useE false y r2) σ → Stp G H P G2 H2 P2 → Rep C G2 x.toD v1 → Rep C G2 y.toD v2 → (ee.pu = true → ee2.pu = true → Same H H2) → K [v1, v2] H2) → tCons (tE C ee) (tCons (tE C ee2) tNil) σ H K := fun K hk => by
        refine tE_settle st h1 fun v1 G1 P1 H1 st1 s1 rp p1 => ?_
        refine tE_settle st1 h2 fun v2 G2 P2 H2 st2 s2 rp2 p2 => ?_
        exact hk v1 v2 G2 H2 P2 st2 (s1.trans s2) (Rep.mono s2.gg rp) rp2 fun h h' => (p1 h).trans (p2 h')
      split at e
      · rename_i xs ys hx hy
        cases e
        refine .inl (main _ fun v1 v2 G2 H2 P2 st2 s2 rp rp2 p => ?_)
        rw [hx] at rp
        rw [hy] at rp2
        cases rp with
        | lst h rs =>
          cases rp2 with
          | lst h' rs' =>
            exact ⟨_, _, _, _, rfl, SqL.of (st2.gh _ _ h), SqL.of (st2.gh _ _ h'), k _ G2 H2 P2 _ st2 s2 (fun h => p (andT h).1 (andT h).2) (wk_zip rs rs') ⟨SqL.of (st2.gh _ _ h), SqL.of (st2.gh _ _ h')⟩
              (fun G3 H3 P3 s3 g3 => ⟨SqL.of (g3 _ _ (s3.gg _ _ h)), SqL.of (g3 _ _ (s3.gg _ _ h'))⟩) trivial⟩
      · rename_i z ys hx hy
        cases e
        refine .inr (main _ fun v1 v2 G2 H2 P2 st2 s2 rp rp2 p => ?_)
        rw [hx] at rp
        rw [hy] at rp2
        cases rp with
        | str =>
          cases rp2 with
          | tup h' rs' =>
            exact ⟨_, _, _, rfl, SqT.of (st2.gh _ _ h'), k _ G2 H2 P2 _ st2 s2 (fun h => p (andT h).1 (andT h).2) (wk_zipST z rs') (SqT.of (st2.gh _ _ h'))
              (fun G3 H3 P3 s3 g3 => SqT.of (g3 _ _ (s3.gg _ _ h'))) trivial⟩
      · cases e
    · cases e
  · cases e
end

/-! ### comprehensions -/
def tCd (C : Ct) (cd : Oe) : TT := fun σ H Q => ∃ G P r b r', Sst C G H P r σ ∧ evc cd r = some (b, r') ∧ ∀ G' H' P', Sst C G' H' P' r' σ → Stp G H P G' H' P' → (cd.pu = true → Same H H') → Q b H'
section
variable {X : Cx} {C : Ct} {e e2 tg iter elt i : Expr} {ifs : List Expr} {ee ei : E} {it : FJ.It} {cd : Oe} {tgt : Tg} {p pos tpos : Pos}
theorem gc_no : PTs X [] (tCd C .no) := by
  refine PTs.imp pts_nil fun σ H Q ⟨G, P, r, b, r', st, e, k⟩ => ?_
  simp only [evc] at e
  cases e
  exact k G H P st (Stp.refl ..) fun _ => Same.refl _
theorem gc_so (h : PT X i (tT C ei)) : PTs X [i] (tCd C (.so ei)) := by
  refine PTs.imp (pts_one h) fun σ H Q ⟨G, P, r, b, r', st, e, k⟩ => ?_
  simp only [evc] at e
  exact ⟨G, P, r, b, r', st, e, k⟩
theorem lc_read {σ : St} {H : Hp} {Q : VK} (q : tE C (.comp ee tgt it cd) σ H Q) : tLc (tI C it) (tG C tgt) (tCd C cd) (tE C ee) tgt.slots σ H Q := by
  obtain ⟨G, P, r, y, r', st, e, k⟩ := q
  simp only [ev] at e
  split at e
  · rename_i ds hid r0 hev
    split at e
    · rename_i hst
      split at e
      · rename_i dsf rf hcl
        cases e
        refine ⟨G, P, r, ds, hid, r0, st, hev, fun J G1 H1 P1 Gd st1 s1 p1 wk g1 gst hdn D hD => ?_⟩
        obtain ⟨Y, w, items⟩ := wk
        have hGD : G1 D = none := Same.no st1.gh hD
        have hPD : ∀ j, ¬ P1 j D := fun j hj => (st1.dom hj).2 hD
        refine lc_it w (fun i H' => ∃ G' P' r' accD acc, Sst C G' H' P' r' (wipe σ tgt.slots) ∧ Stp G1 H1 P1 G' H' P' ∧ (ee.pu = true → cd.pu = true → Same H1 H') ∧ H' D = some (.lst acc) ∧ G' D = none ∧ (∀ j, ¬ P' j D) ∧ Reps C G' accD acc ∧
          compL (fun r => evc cd r) (fun r => ev ee r) tgt (ds.drop i) r' accD = .ok dsf rf) ?_ ?_ ?_ ?_
        · refine ⟨G1, Pout P1 tgt.slots, _, [], [], (st1.wipe tgt.slots).updD hGD fun j z => hPD j z.2, ((Stp.refl G1 H1 P1).sub fun _ _ z => z.2).updN hD, fun _ _ => Same.nu hD, upd_same, hGD, fun j z => hPD j z.2, .nil, by rw [List.drop_zero]; exact hcl⟩
        · rintro i H' _ ⟨G', P', r', accD, acc, st', s', _, _, _, _, _, _⟩
          exact gst G' H' P' s' st'.gh
        · rintro i x H2 H3 hi ⟨G', P', r2, accD, acc, st', s', pu', hL, hGL, hPL, rs, hc⟩ hY
          obtain ⟨d, G3, hd, gr, rp⟩ := items i _ _ _ hi hY G' s'.gg st'.gh
          rw [List.drop_eq_getElem_cons hi, (List.getElem?_eq_some_iff.mp hd).2] at hc
          simp only [compL] at hc
          cases hb : tgt.bind d r2 with
          | none => rw [hb] at hc; cases hc
          | some r3 =>
            rw [hb] at hc
            simp only at hc
            have stg := st'.grow gr
            have sg := s'.trans (Stp.grow gr)
            have hG3 : G3 D = none := by
              by_cases hz : G3 D = none
              · exact hz
              · have := gr.nw D hGL hz; rw [hL] at this; cases this
            refine ⟨G3, P', r2, d, r3, stg, rp, hb, fun σ2 P2 st2 hsub hfr => ⟨?_, ?_⟩⟩
            · have := hfr.wipe
              rw [this]
              apply List.ext_getElem?
              intro j
              by_cases hj : j ∈ tgt.slots
              · rw [wipe_in hj, wipe_in hj, wipe_length]
              · rw [wipe_out hj]
            have hwi : wipe σ2 tgt.slots = wipe σ tgt.slots := by
              rw [hfr.wipe]
              apply List.ext_getElem?
              intro j
              by_cases hj : j ∈ tgt.slots
              · rw [wipe_in hj, wipe_in hj, wipe_length]
              · rw [wipe_out hj]
            have s2 : Stp G1 H1 P1 G3 H3 P2 := sg.sub hsub
            have hL3 := gr.hh _ _ hL
            have hP2 : ∀ j, ¬ P2 j D := fun j z => hPL j (hsub j D z)
            cases hcf : evc cd r3 with
            | none => rw [hcf] at hc; cases hc
            | some q =>
              obtain ⟨b, r4⟩ := q
              rw [hcf] at hc
              refine ⟨G3, P2, r3, b, r4, st2, hcf, fun G4 H4 P4 st4 s4 p4 => ?_⟩
              obtain ⟨hL4, hG4, hP4⟩ := s4.stays hL3 hP2 hG3
              cases b with
              | false =>
                simp only at hc
                refine ⟨G4, Pout P4 tgt.slots, _, accD, acc, by rw [← hwi]; exact st4.wipe _, (s2.trans s4).sub fun _ _ z => z.2, fun h1 h2 => ((pu' h1 h2).trans gr.hh).trans (p4 h2), hL4, hG4, fun j z => hP4 j z.2, Reps.mono (gr.gg.trans s4.gg) rs, hc⟩
              | true =>
                simp only at hc
                cases hef : ev ee r4 with
                | stuck => rw [hef] at hc; cases hc
                | ok y r5 =>
                  rw [hef] at hc
                  simp only at hc
                  split at hc
                  · rename_i hlen
                    show tE C ee σ2 H4 _
                    refine tE_settle st4 hef fun v5 G5 P5 H5 st5 s5 rp5 p5 => ?_
                    obtain ⟨hL5, hG5, hP5⟩ := s5.stays hL4 hP4 hG4
                    have rs5 := Reps.mono ((gr.gg.trans s4.gg).trans s5.gg) rs
                    refine ⟨acc, hL5, by rw [← Reps.length rs]; exact hlen, G5, Pout P5 tgt.slots, _, accD ++ [y.toD], acc ++ [v5], ?_, ?_, ?_, upd_same, hG5, fun j z => hP5 j z.2, Reps.app rs5 (Reps.one rp5), hc⟩
                    · rw [← hwi]
                      exact (st5.wipe _).updD hG5 fun j z => hP5 j z.2
                    · exact (((s2.trans s4).trans s5).sub fun _ _ z => z.2).updN hD
                    · intro h1 h2
                      have := (((pu' h1 h2).trans gr.hh).trans (p4 h2)).trans (p5 h1)
                      exact fun a u e => by rw [upd_ne (ne_of_none e hD)]; exact this a u e
                  · cases hc
        · rintro H' ⟨G', P', r2, accD, acc, st', s', pu', hL, hGL, hPL, rs, hc⟩
          rw [List.drop_length] at hc
          simp only [compL] at hc
          cases hc
          have sb := Sst.back st1 hst st' s'
          obtain ⟨P3, st3, hP3⟩ := sb.show (s'.sub fun _ _ z => z.2) hdn fun _ _ _ => rfl
          have nD : ∀ j, ¬ P3 j D := fun j z => (hP3 j D z).elim (fun z => hPL j z.2) fun z => z.1 hD
          refine k (.ref D) G' H' P3 (fun a => a = D) st3 ((s1.trans s').setP fun j a z => ?_) ⟨.ow hL hGL (.lst rs) fun _ => Iff.rfl, fun j a z => by rw [z]; exact nD j⟩ (fun a z => .inr (by rw [z]; exact s1.ld D hD)) fun h => ?_
          · exact (hP3 j a z).elim (fun z => .inl z.2) fun z => .inr z.2
          · exact (p1 (andT (andT h).2).1).trans (pu' (andT h).1 (andT (andT h).2).2)
      · cases e
    · cases e
  · cases e
theorem ge_comp {scope : Scope} {own : List (Str × Nat)} (hc : X.calm = true) (hN : X.N.Nodup) (hi : PI X tg iter (tI C it)) (ok : BlkOk X.N X.env.scope scope own) (ho : own.map (·.2) = tgt.slots)
    (hg : ∀ (s : Shared) (H : Hp) (Ca : Addr) (cl : List (Str × Addr)) (fp : List Addr), PG (X.blk s H scope (compEnvC scope cl Ca X.env) fp) tg (tG C tgt))
    (ht : ∀ (s : Shared) (H : Hp) (Ca : Addr) (cl : List (Str × Addr)) (fp : List Addr), PTs (X.blk s H scope (compEnvC scope cl Ca X.env) fp) ifs (tCd C cd))
    (he : ∀ (s : Shared) (H : Hp) (Ca : Addr) (cl : List (Str × Addr)) (fp : List Addr), PE (X.blk s H scope (compEnvC scope cl Ca X.env) fp) elt (tE C ee)) (hs : ∀ x, foldedSetIterable iter X.env x = pure x) :
    PE X (.ListComp elt [⟨tg, iter, ifs, 0⟩] scope pos) (tE C (.comp ee tgt it cd)) :=
  PE.imp (pe_lc hc hN hi ok hg ht he hs) fun σ H Q q => by rw [ho]; exact lc_read q
end
end FJ

/-! Statements. -/
namespace FJ
open PySem L2

def OutOk (C : Ct) (D : Ends) (G H : Hp) (P : Nat → Addr → Prop) (σ : St) (as : List Nat) : O → Prop
  | .nx r' => ∀ σ' G' H' P', Sst C G' H' P' r' σ' → Stp G H P G' H' P' → Fr as σ σ' → D.nx σ' H'
  | .bk r' => ∀ σ' G' H' P', Sst C G' H' P' r' σ' → Stp G H P G' H' P' → Fr as σ σ' → D.bk σ' H'
  | .ct r' => ∀ σ' G' H' P', Sst C G' H' P' r' σ' → Stp G H P G' H' P' → Fr as σ σ' → D.ct σ' H'
  | .rt t r' => ∀ v σ' G' H' P' A, Sst C G' H' P' r' σ' → Stp G H P G' H' P' → Own C G' H' t v A → (∀ i a, A a → ¬ P' i a) → (∀ a, A a → (∃ j, P j a) ∨ H a = none) → Fr as σ σ' → D.rt v H'
  | .stuck => False
def tS (C : Ct) (s : S) : TS := fun D σ H => ∃ G P r, Sst C G H P r σ ∧ OutOk C D G H P σ s.asgs (evS s r)
section
variable {C : Ct} {G H G' H' G1 H1 : Hp} {P P' P1 P2 : Nat → Addr → Prop} {r r' : Env} {σ σ' : St} {A B : Addr → Prop} {x : Val} {v : V} {t : T} {d : D} {Q : VK} {as bs : List Nat} {E E' : Ends} {o : O}
theorem Fr.mono (f : Fr as σ σ') (h : ∀ i, i ∈ as → i ∈ bs) : Fr bs σ σ' := ⟨f.1, fun i hi => f.2 i fun z => hi (h i z)⟩
theorem Fr.comp {σ'' : St} (a : Fr as σ σ') (b : Fr as σ' σ'') : Fr as σ σ'' := ⟨b.1.trans a.1, fun i h => (b.2 i h).trans (a.2 i h)⟩
theorem Stp.base (s : Stp G H P G' H' P') (h : (∃ j, P' j a) ∨ H' a = none) : (∃ j, P j a) ∨ H a = none := h.elim (fun ⟨j, hj⟩ => s.pp j a hj) fun z => .inr (s.ld a z)
theorem OutOk.step (s : Stp G H P G1 H1 P1) {σ1 : St} (f : Fr bs σ σ1) (hb : ∀ i, i ∈ bs → i ∈ as) {cs : List Nat} (hc : ∀ i, i ∈ cs → i ∈ as) (h : OutOk C E G H P σ as o) : OutOk C E G1 H1 P1 σ1 cs o := by
  cases o with
  | nx r => exact fun σ' G' H' P' st' s' f' => h σ' G' H' P' st' (s.trans s') ((f.mono hb).comp (f'.mono hc))
  | bk r => exact fun σ' G' H' P' st' s' f' => h σ' G' H' P' st' (s.trans s') ((f.mono hb).comp (f'.mono hc))
  | ct r => exact fun σ' G' H' P' st' s' f' => h σ' G' H' P' st' (s.trans s') ((f.mono hb).comp (f'.mono hc))
  | rt t r => exact fun v σ' G' H' P' A st' s' o' n' b' f' => h v σ' G' H' P' A st' (s.trans s') o' n' (fun a ha => s.base (b' a ha)) ((f.mono hb).comp (f'.mono hc))
  | stuck => exact h
/-- a state within a block goes on -/
theorem tS_at {s : S} (st : Sst C G H P r σ) (h : OutOk C E G H P σ s.asgs (evS s r)) : tS C s E σ H := ⟨G, P, r, st, h⟩
end

section
variable {X : Cx} {C : Ct} {e e2 c tg iter : Expr} {ee ec ek : E} {it : FJ.It} {tgt : Tg} {p pos tpos : Pos} {a b : List Stmt} {sa sb : S} {st1 : Stmt}
theorem gs_pass : PS X (.Pass pos) (tS C .pass) := PS.imp ps_pass fun D σ H ⟨G, P, r, st, k⟩ => k σ G H P st (Stp.refl ..) Fr.refl
theorem gss_nil : PSs X [] (tS C .pass) := PSs.imp pss_nil fun D σ H ⟨G, P, r, st, k⟩ => k σ G H P st (Stp.refl ..) Fr.refl
theorem gs_brk : PS X (.Break pos) (tS C .brk) := PS.imp ps_break fun D σ H ⟨G, P, r, st, k⟩ => k σ G H P st (Stp.refl ..) Fr.refl
theorem gs_cont : PS X (.Continue pos) (tS C .cont) := PS.imp ps_continue fun D σ H ⟨G, P, r, st, k⟩ => k σ G H P st (Stp.refl ..) Fr.refl
theorem gs_retN : PS X (.Return none pos) (tS C .retN) := PS.imp ps_retN fun D σ H ⟨G, P, r, st, k⟩ => k .non σ G H P (fun _ => False) st (Stp.refl ..) (.fr .non fun _ z => z) (fun _ _ z => z.elim) (fun _ z => z.elim) Fr.refl
theorem gss_one (h : PS X st1 (tS C sa)) : PSs X [st1] (tS C sa) := pss_one h
theorem tS_seq0 {sa sb : S} {D : Ends} {σ : St} {H : Hp} (q : tS C (.seq sa sb) D σ H) : tS C sa { D with nx := tS C sb D } σ H := by
  obtain ⟨G, P, r, st, k⟩ := q
  refine tS_at st ?_
  simp only [evS] at k
  have k' : OutOk C D G H P σ (sa.asgs ++ sb.asgs) ((evS sa r).seq fun r => evS sb r) := k
  have hl : ∀ i, i ∈ sa.asgs → i ∈ sa.asgs ++ sb.asgs := fun i h => List.mem_append_left _ h
  cases hs : evS sa r with
  | nx r1 =>
    rw [hs] at k'
    exact fun σ' G' H' P' st' s' f' => tS_at st' (k'.step s' f' hl fun i h => List.mem_append_right _ h)
  | bk r1 =>
    rw [hs] at k'
    exact fun σ' G' H' P' st' s' f' => k' σ' G' H' P' st' s' (f'.mono hl)
  | ct r1 =>
    rw [hs] at k'
    exact fun σ' G' H' P' st' s' f' => k' σ' G' H' P' st' s' (f'.mono hl)
  | rt t r1 =>
    rw [hs] at k'
    exact fun v σ' G' H' P' A st' s' o n b f' => k' v σ' G' H' P' A st' s' o n b (f'.mono hl)
  | stuck => rw [hs] at k'; exact k'
theorem gss_cons (h : PS X st1 (tS C sa)) (h2 : PSs X b (tS C sb)) : PSs X (st1 :: b) (tS C (.seq sa sb)) := PSs.imp (pss_cons h h2) fun D σ H q => tS_seq0 q
theorem gs_expr (hs : swapsWith e none pos.line X.env = pure false) (he : PE X e (tE C ee)) : PS X (.Expr e pos) (tS C (.expr ee)) := by
  refine PS.imp (ps_expr he hs) fun D σ H ⟨G, P, r, st, k⟩ => ?_
  simp only [evS] at k
  split at k
  · rename_i x r1 h1
    exact tE_at st h1 fun v G' H' P' A st' s' _ _ _ => k σ G' H' P' st' s' Fr.refl
  · exact k.elim
theorem gs_if (hc : PT X c (tT C ec)) (ha : PSs X a (tS C sa)) (hb : PSs X b (tS C sb)) : PS X (.If c a b pos) (tS C (.ife ec sa sb)) := by
  refine PS.imp (ps_if hc ha hb) fun D σ H ⟨G, P, r, st, k⟩ => ?_
  simp only [evS] at k
  split at k
  · rename_i r1 h1
    exact ⟨G, P, r, true, r1, st, h1, fun G1 H1 P1 st1 s1 _ => tS_at st1 (k.step s1 Fr.refl (fun i h => h) fun i h => by simp only [S.asgs]; exact List.mem_append_left _ h)⟩
  · rename_i r1 h1
    exact ⟨G, P, r, false, r1, st, h1, fun G1 H1 P1 st1 s1 _ => tS_at st1 (k.step s1 Fr.refl (fun i h => h) fun i h => by simp only [S.asgs]; exact List.mem_append_right _ h)⟩
  · exact k.elim
theorem gs_ret (he : PE X e (tE C ee)) : PS X (.Return (some e) pos) (tS C (.ret ee)) := by
  refine PS.imp (ps_ret he) fun D σ H ⟨G, P, r, st, k⟩ => ?_
  simp only [evS] at k
  split at k
  · rename_i t r1 h1
    exact tE_at st h1 fun v G' H' P' A st' s' res hA _ => k v σ G' H' P' A st' s' res.1 res.2 hA Fr.refl
  · rename_i i t r1 h1
    exact tE_settle st h1 fun v G' P' H' st' s' rp _ => k v σ G' H' P' (fun _ => False) st' s' (.fr rp fun _ z => z) (fun _ _ z => z.elim) (fun _ z => z.elim) Fr.refl
  · exact k.elim
theorem gs_retv {i : Nat} (he : PE X e (tVar i)) : PS X (.Return (some e) pos) (tS C (.retv i)) := by
  refine PS.imp (ps_ret he) fun D σ H ⟨G, P, r, st, k⟩ => ?_
  simp only [evS] at k
  split at k
  · rename_i t ht
    obtain ⟨v, h1, h2⟩ := st.sl i t ht
    refine ⟨v, h1, k v σ G H (Pno P i) (P i) ⟨by rw [List.length_set]; exact st.len, st.gh, fun j t hj => ?_, fun j a hj => ?_, fun j k a h1 h2 => st.dj j k a h1.2 h2.2⟩ ((Stp.refl ..).sub fun _ _ z => z.2) h2 (fun j a ha z => z.1 (st.dj _ _ _ z.2 ha)) (fun a ha => .inl ⟨i, ha⟩) Fr.refl⟩
    · rcases getSet hj with ⟨_, z, _⟩ | ⟨hne, hj⟩
      · cases z
      · obtain ⟨u, h1, h2⟩ := st.sl j t hj
        refine ⟨u, h1, ?_⟩
        have : Pno P i j = P j := by
          funext a
          exact propext ⟨fun h => h.2, fun h => ⟨hne.symm, h⟩⟩
        rw [this]; exact h2
    · obtain ⟨t, ht⟩ := st.pe j a hj.2
      exact ⟨t, by rw [List.getElem?_set_ne (Ne.symm hj.1)]; exact ht⟩
  · exact k.elim
theorem mem1 {i : Nat} : ∀ j, j ∈ (Tg.name i).slots → j ∈ [i] := fun j h => by simpa [Tg.slots] using h
/-- name = e -/
theorem set_read {i : Nat} {D : Ends} {σ : St} {H : Hp} (q : tS C (.asg (.name i) ee) D σ H) : tAsg (tE C ee) (gName i) D σ H := by
  obtain ⟨G, P, r, st, k⟩ := q
  simp only [evS] at k
  split at k
  · rename_i x r1 h1
    split at k
    · rename_i r2 h2
      cases x with
      | v t =>
        simp only [asgE] at h2
        split at h2
        · rename_i o ho
          cases h2
          refine tE_at st h1 fun v G1 H1 P1 A st1 s1 res hA _ => ?_
          obtain ⟨ow, n⟩ := res
          refine k _ G1 H1 (Pput P1 i A) (st1.put ow (fun j a ha _ => n j a ha) (by rw [← st1.len]; exact ltOf ho)) (s1.setP fun j a z => ?_) (by simp only [S.asgs, Tg.slots]; exact Fr.set)
          exact z.elim (fun z => .inr (hA a z.2)) fun z => .inl z.2
        · cases h2
      | b j t =>
        simp only [asgE, Tg.bind] at h2
        cases h2
        refine tE_settle st h1 fun v G1 P1 H1 st1 s1 rp _ => ?_
        exact k _ G1 H1 _ (st1.putF i rp) (s1.sub Pput_sub) (by simp only [S.asgs, Tg.slots]; exact Fr.set)
    · exact k.elim
  · exact k.elim
/-- a target of any form -/
theorem asg_read {D : Ends} {σ : St} {H : Hp} (hn : ∀ i, tgt ≠ .name i) (q : tS C (.asg tgt ee) D σ H) : tAsg (tE C ee) (tG C tgt) D σ H := by
  obtain ⟨G, P, r, st, k⟩ := q
  simp only [evS] at k
  split at k
  · rename_i x r1 h1
    split at k
    · rename_i r2 h2
      have h3 : tgt.bind x.toD (useE false x r1) = some r2 := by
        unfold asgE at h2
        split at h2
        · exact (hn _ rfl).elim
        · exact h2
      refine tE_settle st h1 fun v G1 P1 H1 st1 s1 rp _ => ?_
      exact ⟨G1, P1, _, _, r2, st1, rp, h3, fun σ' P' st' hs f => k σ' G1 H1 P' st' (s1.sub hs) (by simp only [S.asgs]; exact f)⟩
    · exact k.elim
  · exact k.elim
theorem gs_set {i : Nat} {x : Str} {pos' : Pos} (hN : X.N.Nodup) (hi : X.N[i]? = some x) (hx : Loc X.env.scope x) (hf : X.fn x = true ∨ X.env.scope.names.lookup x = some .local) (he : PE X e (tE C ee)) (hs : swapsWith e (some (.Name x pos')) pos.line X.env = pure false) :
    PS X (.Assign [.Name x pos'] e pos) (tS C (.asg (.name i) ee)) := PS.imp (ps_set hN hi hx he hs hf) fun D σ H q => set_read q
theorem gs_asg {ts : List Expr} {kk : Nat} (hn : ∀ i, tgt ≠ .name i) (he : PE X e (tE C ee)) (hg : PG X (.Tuple ts kk tpos) (tG C tgt)) (h1 : isTup e = false) (h2 : isComp e = false) : PS X (.Assign [.Tuple ts kk tpos] e pos) (tS C (.asg tgt ee)) := by
  refine PS.imp (ps_asg he hg ?_ ?_ rfl) fun D σ H q => asg_read hn q
  · cases e <;> first | rfl | (simp [isComp] at h2)
  · cases e <;> first | rfl | (simp [isTup] at h1)
theorem gs_par {i j : Nat} {x y : Str} {a b : Expr} {ea eb : E} {px py pt : Pos} {kt k2 : Nat} {pt2 : Pos} (hc : X.calm = true) (hN : X.N.Nodup) (hi : X.N[i]? = some x) (hj : X.N[j]? = some y) (hij : i ≠ j)
    (hx : X.env.scope.names.lookup x = some .local) (hy : X.env.scope.names.lookup y = some .local) (hna : notStar a = true) (hnb : notStar b = true) (ha : PE X a (tE C ea)) (hb : PE X b (tE C eb))
    (hw : swappedStores [.Tuple [.Name x px, .Name y py] kt pt] (.Tuple [a, b] k2 pt2) X.env = pure (some [x, y])) :
    PS X (.Assign [.Tuple [.Name x px, .Name y py] kt pt] (.Tuple [a, b] k2 pt2) pos) (tS C (.asg (.tup [.name i, .name j]) (.tup (.cons ea (.cons eb .nil))))) := by
  refine PS.imp (ps_par hc hN hi hj hij hx hy (ga_cons hna ha (ga_cons hnb hb ga_nil)) hw) fun D σ H ⟨G, P, r, st, k⟩ => ?_
  simp only [evS, ev] at k
  split at k
  · rename_i x1 r1 h1
    split at h1
    · rename_i ds r2 h2
      split at h1
      · cases h1
        split at k
        · rename_i r3 h3
          refine ⟨G, P, r, ds, _, st, h2, fun vs G1 H1 P1 st1 s1 rs p1 => ?_⟩
          simp only [asgE, Val.toD, T.toD, useE, Tg.bind] at h3
          cases rs with
          | nil => simp only [Tg.binds] at h3; cases h3
          | cons r1 rs =>
            cases rs with
            | nil => simp only [Tg.binds, Tg.bind] at h3; cases h3
            | cons r2 rs =>
              cases rs with
              | cons _ _ => simp only [Tg.binds, Tg.bind] at h3; cases h3
              | nil =>
                simp only [Tg.binds, Tg.bind] at h3
                cases h3
                refine ⟨_, _, rfl, k _ G1 H1 _ ((st1.putF i r1).putF j r2) (s1.sub fun j a z => Pput_sub _ _ (Pput_sub _ _ z)) ?_⟩
                simp only [S.asgs, Tg.slots, Tg.slotss]
                exact (Fr.set (i := i)).trans ((Fr.set (i := j)).mono (by simp))
        · exact k.elim
      · cases h1
    · cases h1
  · exact k.elim
theorem gs_aug {i : Nat} {x : Str} {o : Operator} {bo : Bop} {pos' : Pos} (ho : o = opOf bo) (hN : X.N.Nodup) (hi : X.N[i]? = some x) (hx : Loc X.env.scope x) (hf : X.fn x = true ∨ X.env.scope.names.lookup x = some .local) (he : PE X e (tE C ee)) (hb : bo = .add ∨ bo = .sub) :
    PS X (.AugAssign (.Name x pos') o e pos) (tS C (.aug i bo ee)) := by
  subst ho
  rcases hb with rfl | rfl
  · refine PS.imp (ps_aug hN hi hx he ip_add hf) fun D σ H ⟨G, P, r, st, k⟩ => ?_
    simp only [evS] at k
    split at k
    · rename_i n hn
      split at k
      · rename_i y r1 h1
        split at k
        · rename_i m _ hm
          obtain ⟨v, h2, h3⟩ := st.sl i _ hn
          cases h3 with
          | fr rp _ =>
            cases rp.inti
            refine ⟨_, h2, tE_settle st h1 fun w G1 P1 H1 st1 s1 rp1 _ => ?_⟩
            rw [hm] at rp1
            cases rp1.inti
            exact ⟨n, m, rfl, rfl, k _ G1 H1 _ (st1.putF i .int) (s1.sub Pput_sub) (by simp only [S.asgs]; exact Fr.set)⟩
        · exact Bop.noConfusion (by assumption : Bop.add = Bop.sub)
        · exact k.elim
      · exact k.elim
    · exact k.elim
  · refine PS.imp (ps_aug hN hi hx he ip_sub hf) fun D σ H ⟨G, P, r, st, k⟩ => ?_
    simp only [evS] at k
    split at k
    · rename_i n hn
      split at k
      · rename_i y r1 h1
        split at k
        · exact Bop.noConfusion (by assumption : Bop.sub = Bop.add)
        · rename_i m _ hm
          obtain ⟨v, h2, h3⟩ := st.sl i _ hn
          cases h3 with
          | fr rp _ =>
            cases rp.inti
            refine ⟨_, h2, tE_settle st h1 fun w G1 P1 H1 st1 s1 rp1 _ => ?_⟩
            rw [hm] at rp1
            cases rp1.inti
            exact ⟨n, m, rfl, rfl, k _ G1 H1 _ (st1.putF i .int) (s1.sub Pput_sub) (by simp only [S.asgs]; exact Fr.set)⟩
        · exact k.elim
      · exact k.elim
    · exact k.elim
/-! ### loops -/
theorem gs_for (hp : PassesOwn (model X.prog X.w) X.A X.env X.xe) (hc : X.calm = true) (hi : PI X tg iter (tI C it)) (hg : PG X tg (tG C tgt)) (hb : PSs X b (tS C sb)) (hs : ∀ x, foldedSetIterable iter X.env x = pure x) : PS X (.For tg iter b [] pos) (tS C (.for tgt it sb)) := by
  refine PS.imp (ps_for hp hc hi hg hb hs) fun D σ H ⟨G, P, r, st, k⟩ => ?_
  have k' : OutOk C D G H P σ (tgt.slots ++ sb.asgs) (evS (.for tgt it sb) r) := k
  clear k
  simp only [evS] at k'
  split at k'
  · rename_i ds hid r0 hev
    refine ⟨G, P, r, ds, hid, r0, st, hev, fun J G1 H1 P1 Gd st1 s1 p1 wk g1 gst hdn => ?_⟩
    obtain ⟨Y, w, items⟩ := wk
    generalize hof : forL (fun r => evS sb r) tgt ds (hideE hid r0) = of at k'
    have fin : ∀ r4, of = .nx r4 → ∀ σ' G' H' P', Sst C G' H' P' r4 σ' → Stp G1 H1 P1 G' H' P' → Fr (tgt.slots ++ sb.asgs) σ σ' → D.nx σ' H' := by
      intro r4 e4 σ' G' H' P' st' s' f'
      rw [e4] at k'
      simp only at k'
      split at k'
      · rename_i hfr
        obtain ⟨P3, st3, hP3⟩ := st'.show s' hdn fun i t e => by
          subst e
          refine f'.2 i fun z => ?_
          simp only [freeE, Bool.not_eq_true'] at hfr
          rw [List.contains_iff_mem.mpr z] at hfr
          cases hfr
        exact k' σ' G' H' P3 st3 ((s1.trans s').setP fun j a z => (hP3 j a z).elim .inl fun z => .inr z.2) f'
      · exact k'.elim
    refine for_it w (fun i σ' H' => ∃ G' P' r', Sst C G' H' P' r' σ' ∧ Stp G1 H1 P1 G' H' P' ∧ Fr (tgt.slots ++ sb.asgs) σ σ' ∧ forL (fun r => evS sb r) tgt (ds.drop i) r' = of) ?_ ?_ ?_ ?_
    · exact ⟨G1, P1, _, st1, Stp.refl .., Fr.refl, by rw [List.drop_zero]; exact hof⟩
    · rintro i σ' H' _ ⟨G', P', r', st', s', _, _⟩
      exact gst G' H' P' s' st'.gh
    · rintro i x σ' H2 H3 hi ⟨G', P', r2, st', s', f', hc⟩ hY
      obtain ⟨d, G3, hd, gr, rp⟩ := items i _ _ _ hi hY G' s'.gg st'.gh
      rw [List.drop_eq_getElem_cons hi, (List.getElem?_eq_some_iff.mp hd).2] at hc
      simp only [forL] at hc
      have bad : of = .stuck → False := fun e => by rw [e] at k'; exact k'
      cases hb : tgt.bind d r2 with
      | none => rw [hb] at hc; exact (bad hc.symm).elim
      | some r3 =>
        rw [hb] at hc
        simp only at hc
        refine ⟨G3, P', r2, d, r3, st'.grow gr, rp, hb, fun σ2 P2 st2 hsub hfr => ?_⟩
        have s2 : Stp G1 H1 P1 G3 H3 P2 := (s'.trans (Stp.grow gr)).sub hsub
        have f2 : Fr (tgt.slots ++ sb.asgs) σ σ2 := f'.comp (hfr.mono fun i h => List.mem_append_left _ h)
        refine tS_at st2 ?_
        have hm : ∀ {σ3 : St}, Fr sb.asgs σ2 σ3 → Fr (tgt.slots ++ sb.asgs) σ σ3 := fun f => f2.comp (f.mono fun i h => List.mem_append_right _ h)
        cases hbo : evS sb r3 with
        | nx r4 =>
          rw [hbo] at hc
          exact fun σ4 G4 H4 P4 st4 s4 f4 => ⟨G4, P4, r4, st4, s2.trans s4, hm f4, hc⟩
        | ct r4 =>
          rw [hbo] at hc
          exact fun σ4 G4 H4 P4 st4 s4 f4 => ⟨G4, P4, r4, st4, s2.trans s4, hm f4, hc⟩
        | bk r4 =>
          rw [hbo] at hc
          exact fun σ4 G4 H4 P4 st4 s4 f4 => fin r4 hc.symm σ4 G4 H4 P4 st4 (s2.trans s4) (hm f4)
        | rt t r4 =>
          rw [hbo] at hc
          simp only at hc
          rw [← hc] at k'
          exact fun v σ4 G4 H4 P4 A st4 s4 o4 n4 b4 f4 => k' v σ4 G4 H4 P4 A st4 ((s1.trans s2).trans s4) o4 n4 (fun a ha => (s1.trans s2).base (b4 a ha)) (hm f4)
        | stuck =>
          rw [hbo] at hc
          exact (bad hc.symm).elim
    · rintro σ' H' ⟨G', P', r', st', s', f', hc⟩
      rw [List.drop_length] at hc
      simp only [forL] at hc
      exact fin r' hc.symm σ' G' H' P' st' s' f'
  · exact k'.elim
theorem gs_while {n : Nat} (hp : PassesOwn (model X.prog X.w) X.A X.env X.xe) (hc : PT X c (tT C ec)) (hb : PSs X b (tS C sb)) : PS X (.While c b [] pos) (tS C (.whl n ec sb)) := by
  refine PS.imp (ps_while hp hc hb) fun D σ H ⟨G, P, r, st, k⟩ => ?_
  have k' : OutOk C D G H P σ sb.asgs (evS (.whl n ec sb) r) := k
  clear k
  simp only [evS] at k'
  generalize hof : whlL (fun r => (ev ec r).tru) (fun r => evS sb r) n r = of at k'
  have bad : of = .stuck → False := fun e => by rw [e] at k'; exact k'
  have fin : ∀ r4, of = .nx r4 → ∀ σ' G' H' P', Sst C G' H' P' r4 σ' → Stp G H P G' H' P' → Fr sb.asgs σ σ' → D.nx σ' H' := by
    intro r4 e4 σ' G' H' P' st' s' f'
    rw [e4] at k'
    exact k' σ' G' H' P' st' s' f'
  refine ⟨fun m σ' H' => ∃ G' P' r', Sst C G' H' P' r' σ' ∧ Stp G H P G' H' P' ∧ Fr sb.asgs σ σ' ∧ whlL (fun r => (ev ec r).tru) (fun r => evS sb r) m r' = of, ⟨n, G, P, r, st, Stp.refl .., Fr.refl, hof⟩, ?_⟩
  rintro m σ' H' ⟨G', P', r', st', s', f', hw⟩
  cases m with
  | zero => simp only [whlL] at hw; exact (bad hw.symm).elim
  | succ m =>
    simp only [whlL] at hw
    cases ht : (ev ec r').tru with
    | none => rw [ht] at hw; exact (bad hw.symm).elim
    | some q =>
      obtain ⟨bb, r2⟩ := q
      rw [ht] at hw
      refine ⟨G', P', r', bb, r2, st', ht, fun G2 H2 P2 st2 s2 _ => ?_⟩
      have s2' := s'.trans s2
      cases bb with
      | false =>
        simp only at hw
        exact fin r2 hw.symm σ' G2 H2 P2 st2 s2' f'
      | true =>
        simp only at hw
        refine ⟨fun σ3 H3 => ∃ G3 P3 r3, Sst C G3 H3 P3 r3 σ3 ∧ Stp G H P G3 H3 P3 ∧ Fr sb.asgs σ σ3 ∧ whlL (fun r => (ev ec r).tru) (fun r => evS sb r) m r3 = of, fun σ3 H3 q => ⟨m, Nat.lt_succ_self m, q⟩, ?_⟩
        refine tS_at st2 ?_
        cases hbo : evS sb r2 with
        | nx r4 =>
          rw [hbo] at hw
          exact fun σ4 G4 H4 P4 st4 s4 f4 => ⟨G4, P4, r4, st4, s2'.trans s4, f'.comp f4, hw⟩
        | ct r4 =>
          rw [hbo] at hw
          exact fun σ4 G4 H4 P4 st4 s4 f4 => ⟨G4, P4, r4, st4, s2'.trans s4, f'.comp f4, hw⟩
        | bk r4 =>
          rw [hbo] at hw
          exact fun σ4 G4 H4 P4 st4 s4 f4 => fin r4 hw.symm σ4 G4 H4 P4 st4 (s2'.trans s4) (f'.comp f4)
        | rt t r4 =>
          rw [hbo] at hw
          simp only at hw
          rw [← hw] at k'
          exact fun v σ4 G4 H4 P4 A st4 s4 o4 n4 b4 f4 => k' v σ4 G4 H4 P4 A st4 (s2'.trans s4) o4 n4 (fun a ha => s2'.base (b4 a ha)) (f'.comp f4)
        | stuck =>
          rw [hbo] at hw
          exact (bad hw.symm).elim

/-! ### what is changed in its place -/
theorem Sst.updO {G H : Hp} {P : Nat → Addr → Prop} {r : Env} {σ : St} {i : Nat} {d d' : D} {p : Addr} {o' : HO} (st : Sst C G H P r σ) (hi : r[i]? = some (some (.ow d))) (hp : P i p) (f : Flat C G d' o') :
    Sst C G (upd H p o') P (r.set i (some (.ow d'))) σ ∧ Stp G H P G (upd H p o') P := by
  obtain ⟨hG, hH⟩ := st.dom hp
  refine ⟨⟨by rw [List.length_set]; exact st.len, fun a u e => by rw [upd_ne (fun z => by rw [z, hG] at e; cases e)]; exact st.gh a u e, fun j t hj => ?_, fun j a hj => ?_, st.dj⟩, Same.refl _, fun a u e n => by rw [upd_ne (fun z => n i (by rw [z]; exact hp))]; exact e, fun a e => ?_, fun j a h => .inl ⟨j, h⟩, fun a h n => (n h).elim⟩
  · rcases getSet hj with ⟨rfl, ht, _⟩ | ⟨hne, hj⟩
    · cases ht
      obtain ⟨v, h1, h2⟩ := st.sl i _ hi
      refine ⟨v, h1, ?_⟩
      cases h2 with
      | ow q1 q2 q3 q4 =>
        have := (q4 _).mp hp
        subst this
        exact .ow upd_same q2 f q4
    · obtain ⟨v, h1, h2⟩ := st.sl j t hj
      refine ⟨v, h1, Own.mono (Same.refl G) h2 (fun a h => (Own.dom h2 h).1) fun a u ha e => ?_⟩
      rw [upd_ne (fun z => hne (st.dj _ _ _ hp (by rw [← z]; exact ha)))]; exact e
  · obtain ⟨t, ht⟩ := st.pe j a hj
    by_cases hji : i = j
    · subst hji
      exact ⟨_, List.getElem?_set_self (ltOf hi)⟩
    · exact ⟨t, by rw [List.getElem?_set_ne hji]; exact ht⟩
  · by_cases ha : a = p
    · rw [ha, upd_same] at e; cases e
    · rw [upd_ne ha] at e; exact e
theorem Own.at {G H : Hp} {d : D} {v : V} {A : Addr → Prop} (o : Own C G H (.ow d) v A) : ∃ p o', v = .ref p ∧ H p = some o' ∧ Flat C G d o' ∧ A p := by
  cases o with
  | ow h1 h2 h3 h4 => exact ⟨_, _, rfl, h1, h3, (h4 _).mpr rfl⟩
theorem few1 {e : Expr} {cpos : Pos} (hn : notStar e = true) : ((backTo cpos (starEach [e] X.env)).all (fun x => !x.1) && (backToKw cpos (keywordEach [] X.env)).all (fun x => x.1.isSome)
      && decide (([e] : List Expr).length + ([] : List Keyword).length + (if ([] : List Keyword).isEmpty then 0 else 1) < 30)) = true := by
  rw [star_cons hn]; rfl
theorem gs_app {i : Nat} {x : Str} {np apos cpos : Pos} (hN : X.N[i]? = some x) (hv : Vis X.env.scope x) (hd : (x == ("__debug__" : Str)) = false) (hcd : (x == ("__classdict__" : Str)) = false) (hl : (apos.endLine == cpos.line) = true) (hn : notStar e = true) (he : PE X e (tE C ee)) :
    PS X (.Expr (.Call (.Attribute (.Name x np) "append" apos) [e] [] cpos) pos) (tS C (.app i ee)) := by
  refine PS.imp (ps_expr (pe_bm PySem.F.plainAttrs_list PySem.F.slot_list_append PySem.F.type_list_append mt_append (pe_var hN hv hd hcd) (pa_cons he pa_nil (star_cons hn)) rfl (few1 hn) hl (star_cons hn) rfl)) fun D σ H ⟨G, P, r, st, k⟩ => ?_
  simp only [evS] at k
  split at k
  · rename_i ds0 h0
    split at k
    · rename_i x r1 h1
      split at k
      · rename_i ds h2
        split at k
        · rename_i hl
          obtain ⟨v0, e0, o0⟩ := st.sl i _ h0
          obtain ⟨p, ob, rfl, hp, f0, _⟩ := o0.at
          refine ⟨_, e0, ?_, tE_settle st h1 fun w G1 P1 H1 st1 s1 rp1 _ => ?_⟩
          · cases f0 with
            | lst rs => exact .inl ⟨rfl, _, SqL.of hp⟩
          · obtain ⟨v1, e1, o1⟩ := st1.sl i _ h2
            rw [e0] at e1
            cases e1
            obtain ⟨q, ob1, eq1, hq, f1, hA⟩ := o1.at
            cases eq1
            cases f1 with
            | lst rs =>
              obtain ⟨st2, s2⟩ := st1.updO h2 hA (.lst (Reps.app rs (Reps.one rp1)))
              exact ⟨_, _, w, rfl, rfl, hq, by rw [← Reps.length rs]; exact hl, k σ G1 _ P1 st2 (s1.trans s2) Fr.refl⟩
        · exact k.elim
      · exact k.elim
    · exact k.elim
  · exact k.elim
theorem gs_seti {i : Nat} {x : Str} {np spos : Pos} (hN : X.N[i]? = some x) (hv : Vis X.env.scope x) (hd : (x == ("__debug__" : Str)) = false) (hcd : (x == ("__classdict__" : Str)) = false) (hsl : isSlice c = false) (hcm : isComp e = false) (hcc : PE X c (tE C ec)) (he : PE X e (tE C ee)) :
    PS X (.Assign [.Subscript (.Name x np) c spos] e pos) (tS C (.seti i ec ee)) := by
  refine PS.imp (ps_asg he (pg_sub (pe_var hN hv hd hcd) hcc set_list ?_) ?_ ?_ rfl) fun D σ H ⟨G, P, r, st, k⟩ => ?_
  · intro v; cases c <;> first | rfl | (simp [isSlice] at hsl)
  · cases e <;> first | rfl | (simp [isComp] at hcm)
  · cases e <;> rfl
  · simp only [evS] at k
    split at k
    · rename_i t0 h0
      split at k
      · rename_i x1 r1 h1
        split at k
        · rename_i y r2 h2
          split at k
          · rename_i d h3
            split at k
            · rename_i d' h4
              obtain ⟨v0, e0, o0⟩ := st.sl i _ h0
              refine tE_settle st h1 fun w G1 P1 H1 st1 s1 rp1 _ => ⟨v0, e0, tE_settle st1 h2 fun u G2 P2 H2 st2 s2 rp2 _ => ?_⟩
              obtain ⟨v1, e1, o1⟩ := st2.sl i _ h3
              rw [e0] at e1
              cases e1
              obtain ⟨q, ob1, eq1, hq, f1, hA⟩ := o1.at
              cases eq1
              cases f1 with
              | lst rs =>
                generalize hy : y.toD = dy at *
                cases dy with
                | int j =>
                  simp only [setD] at h4
                  split at h4
                  · rename_i kk hk
                    cases h4
                    cases rp2.inti
                    obtain ⟨st3, s3⟩ := st2.updO h3 hA (.lst (Reps.set kk (Rep.mono s2.gg rp1) rs))
                    refine ⟨_, _, j, kk, rfl, rfl, hq, ?_, k σ G2 _ P2 st3 ((s1.trans s2).trans s3) Fr.refl⟩
                    rw [← Reps.length rs]; exact hk
                  · cases h4
                | _ => cases h4
              | _ => cases h4
            · exact k.elim
          · exact k.elim
        · exact k.elim
      · exact k.elim
    · exact k.elim
end
end FJ

/-! Defs: what they promise, calls. -/
namespace FJ
open PySem L2

/-- only what may be changed -/
def maskE : List Bool → Env → Env
  | true :: io, t :: ts => t :: maskE io ts
  | false :: io, _ :: ts => none :: maskE io ts
  | _, _ => []
def spFn (C : Ct) (f : Fn) : Sp := fun vs H Q E => ∃ G P ts t rp, Sst C G H P (ts.map some) (vs.map some) ∧ f.run ts = some (t, rp) ∧ ts.length = f.io.length ∧ ∀ v G' H' P' A, Sst C G' H' P' (maskE f.io rp) (vs.map some) → Stp G H P G' H' P' →
  Own C G' H' t v A → (∀ i a, A a → ¬ P' i a) → (∀ a, A a → (∃ j, P j a) ∨ H a = none) → Q v H'
theorem spFn_len {C : Ct} {f : Fn} {vs : List V} {H : Hp} {Q : VK} {E : XK} (h : spFn C f vs H Q E) : vs.length = f.io.length := by
  obtain ⟨G, P, ts, t, rp, st, _, hl, _⟩ := h
  have := st.len
  rw [List.length_map, List.length_map] at this
  omega

/-- the arguments that were handed on: As what each has -/
inductive ArgOk (C : Ct) (G H : Hp) (P P0 : Nat → Addr → Prop) (H0 : Hp) (σ : St) : List Bool → Ar → List T → List V → List (Addr → Prop) → Prop
  | nil : ArgOk C G H P P0 H0 σ [] .nil [] [] []
  | ci {io : List Bool} {e : E} {as : Ar} {d : D} {v : V} {ts : List T} {vs : List V} {As : List (Addr → Prop)} : Rep C G d v → ArgOk C G H P P0 H0 σ io as ts vs As → ArgOk C G H P P0 H0 σ (false :: io) (.ci e as) (.fr d :: ts) (v :: vs) ((fun _ => False) :: As)
  | cx {io : List Bool} {i : Nat} {as : Ar} {t : T} {v : V} {ts : List T} {vs : List V} {A : Addr → Prop} {As : List (Addr → Prop)} : σ[i]? = some (some v) → Own C G H t v A → (∀ j a, A a → ¬ P j a) → (∀ a, A a → (∃ j, P0 j a) ∨ H0 a = none) → (∀ B ∈ As, ∀ a, A a → ¬ B a) →
      ArgOk C G H P P0 H0 σ io as ts vs As → ArgOk C G H P P0 H0 σ (true :: io) (.cx i as) (t :: ts) (v :: vs) (A :: As)
  | ct {io : List Bool} {e : E} {as : Ar} {t : T} {v : V} {ts : List T} {vs : List V} {A : Addr → Prop} {As : List (Addr → Prop)} : Own C G H t v A → (∀ j a, A a → ¬ P j a) → (∀ a, A a → (∃ j, P0 j a) ∨ H0 a = none) → (∀ B ∈ As, ∀ a, A a → ¬ B a) →
      ArgOk C G H P P0 H0 σ io as ts vs As → ArgOk C G H P P0 H0 σ (true :: io) (.ct e as) (t :: ts) (v :: vs) (A :: As)
def tAr (C : Ct) (io : List Bool) (as : Ar) (K : T → Prop := fun _ => True) : TA := fun σ H Q => ∃ G P r ts r1, Sst C G H P r σ ∧ eva as r = .ok ts r1 ∧ (∀ t, ts.head? = some t → K t) ∧ ∀ vs G1 H1 P1 As, Sst C G1 H1 P1 r1 σ → Stp G H P G1 H1 P1 → ArgOk C G1 H1 P1 P H σ io as ts vs As → (as.pu = true → Same H H1) → Q vs H1
/-- which arguments go back -/
def cxAt : Ar → Nat → Prop
  | .cx _ _, 0 => True
  | .nil, _ => False
  | .ci _ _, 0 => False
  | .ct _ _, 0 => False
  | .cx _ as, j + 1 => cxAt as j
  | .ci _ as, j + 1 => cxAt as j
  | .ct _ as, j + 1 => cxAt as j
section
variable {C : Ct} {G H G1 H1 G2 H2 H0 : Hp} {P P0 P1 P2 : Nat → Addr → Prop} {r r' : Env} {σ : St} {io : List Bool} {as : Ar} {ts : List T} {vs : List V} {As : List (Addr → Prop)}
theorem ArgOk.len (h : ArgOk C G H P P0 H0 σ io as ts vs As) : io.length = ts.length ∧ vs.length = ts.length ∧ As.length = ts.length := by
  induction h with
  | nil => exact ⟨rfl, rfl, rfl⟩
  | ci _ _ ih => simp [ih]
  | cx _ _ _ _ _ _ ih => simp [ih]
  | ct _ _ _ _ _ ih => simp [ih]
theorem ArgOk.base (h : ArgOk C G H P P0 H0 σ io as ts vs As) : ∀ A ∈ As, ∀ a, A a → ((∃ j, P0 j a) ∨ H0 a = none) ∧ G a = none ∧ H a ≠ none ∧ ∀ j, ¬ P j a := by
  induction h with
  | nil => intro A hA; simp at hA
  | ci _ _ ih =>
    intro A hA a ha
    rcases List.mem_cons.mp hA with rfl | hA
    · exact ha.elim
    · exact ih A hA a ha
  | cx _ o n b _ _ ih =>
    intro A hA a ha
    rcases List.mem_cons.mp hA with rfl | hA
    · exact ⟨b a ha, (Own.dom o ha).1, (Own.dom o ha).2, fun j => n j a ha⟩
    · exact ih A hA a ha
  | ct o n b _ _ ih =>
    intro A hA a ha
    rcases List.mem_cons.mp hA with rfl | hA
    · exact ⟨b a ha, (Own.dom o ha).1, (Own.dom o ha).2, fun j => n j a ha⟩
    · exact ih A hA a ha
theorem ArgOk.weak {P0' : Nat → Addr → Prop} {H0' : Hp} (h : ArgOk C G H P P0 H0 σ io as ts vs As) (hb : ∀ a, ((∃ j, P0 j a) ∨ H0 a = none) → (∃ j, P0' j a) ∨ H0' a = none) : ArgOk C G H P P0' H0' σ io as ts vs As := by
  induction h with
  | nil => exact .nil
  | ci r _ ih => exact .ci r ih
  | cx e o n b d _ ih => exact .cx e o n (fun a ha => hb a (b a ha)) d ih
  | ct o n b d _ ih => exact .ct o n (fun a ha => hb a (b a ha)) d ih
/-- new objects are laid behind -/
theorem ArgOk.grow (h : ArgOk C G H P P0 H0 σ io as ts vs As) (g : Grow G H G1 H1) : ArgOk C G1 H1 P P0 H0 σ io as ts vs As := by
  have up : ∀ {t : T} {v : V} {A : Addr → Prop}, Own C G H t v A → Own C G1 H1 t v A := fun o => Own.mono g.gg o (fun a ha => by
    by_cases hn : G1 a = none
    · exact hn
    · exact absurd (g.nw a (Own.dom o ha).1 hn) (Own.dom o ha).2) fun a u _ e => g.hh a u e
  induction h with
  | nil => exact .nil
  | ci r _ ih => exact .ci (Rep.mono g.gg r) ih
  | cx e o n b d _ ih => exact .cx e (up o) n b d ih
  | ct o n b d _ ih => exact .ct (up o) n b d ih
/-- what each argument has -/
def PAs (As : List (Addr → Prop)) : Nat → Addr → Prop := fun j a => ∃ A, As[j]? = some A ∧ A a
theorem ArgOk.sl (h : ArgOk C G H P P0 H0 σ io as ts vs As) : ∀ (j : Nat) (t : T), ts[j]? = some t → ∃ v A, vs[j]? = some v ∧ As[j]? = some A ∧ Own C G H t v A := by
  induction h with
  | nil => intro j t h; simp at h
  | ci r _ ih =>
    intro j t h
    cases j with
    | zero => simp at h; subst h; exact ⟨_, _, rfl, rfl, .fr r fun _ z => z⟩
    | succ j => exact ih j t (by simpa using h)
  | cx _ o _ _ _ _ ih =>
    intro j t h
    cases j with
    | zero => simp at h; subst h; exact ⟨_, _, rfl, rfl, o⟩
    | succ j => exact ih j t (by simpa using h)
  | ct o _ _ _ _ ih =>
    intro j t h
    cases j with
    | zero => simp at h; subst h; exact ⟨_, _, rfl, rfl, o⟩
    | succ j => exact ih j t (by simpa using h)
theorem dj_cons {A : Addr → Prop} {As : List (Addr → Prop)} (d : ∀ B ∈ As, ∀ a, A a → ¬ B a) (ih : ∀ (i j : Nat) (a : Addr), PAs As i a → PAs As j a → i = j) : ∀ (i j : Nat) (a : Addr), PAs (A :: As) i a → PAs (A :: As) j a → i = j := by
  intro i j a ⟨A1, h1, h2⟩ ⟨B, h3, h4⟩
  cases i with
  | zero =>
    cases j with
    | zero => rfl
    | succ j =>
      simp at h1; subst h1
      exact (d B (List.mem_of_getElem? (by simpa using h3)) a h2 h4).elim
  | succ i =>
    cases j with
    | zero =>
      simp at h3; subst h3
      exact (d A1 (List.mem_of_getElem? (by simpa using h1)) a h4 h2).elim
    | succ j => exact congrArg _ (ih i j a ⟨A1, by simpa using h1, h2⟩ ⟨B, by simpa using h3, h4⟩)
theorem ArgOk.dj (h : ArgOk C G H P P0 H0 σ io as ts vs As) : ∀ (i j : Nat) (a : Addr), PAs As i a → PAs As j a → i = j := by
  induction h with
  | nil => intro i j a ⟨A, h, _⟩; simp at h
  | ci _ _ ih => exact dj_cons (fun _ _ _ z => z.elim) ih
  | cx _ _ _ _ d _ ih => exact dj_cons d ih
  | ct _ _ _ d _ ih => exact dj_cons d ih
theorem ArgOk.sst (h : ArgOk C G H P P0 H0 σ io as ts vs As) (g : Same G H) : Sst C G H (PAs As) (ts.map some) (vs.map some) where
  len := by rw [List.length_map, List.length_map, h.len.2.1]
  gh := g
  sl := fun i t e => by
    rw [List.getElem?_map] at e
    cases ht : ts[i]? with
    | none => rw [ht] at e; cases e
    | some t' =>
      rw [ht] at e
      cases e
      obtain ⟨v, A, h1, h2, h3⟩ := h.sl i _ ht
      refine ⟨v, by rw [List.getElem?_map, h1]; rfl, ?_⟩
      have : PAs As i = A := by
        funext a
        refine propext ⟨fun ⟨B, hB, z⟩ => ?_, fun z => ⟨A, h2, z⟩⟩
        rw [h2] at hB; cases hB; exact z
      rw [this]; exact h3
  pe := fun i a ⟨A, hA, _⟩ => by
    have hl : i < ts.length := by rw [← h.len.2.2]; exact ltOf hA
    exact ⟨ts[i], by rw [List.getElem?_map, List.getElem?_eq_getElem hl]; rfl⟩
  dj := h.dj
theorem Sst.none_at {i : Nat} (st : Sst C G H P r σ) : Sst C G H (Pno P i) (r.set i none) σ := by
  refine ⟨by rw [List.length_set]; exact st.len, st.gh, fun j t hj => ?_, fun j a hj => ?_, fun j k a h1 h2 => st.dj j k a h1.2 h2.2⟩
  · rcases getSet hj with ⟨_, z, _⟩ | ⟨hne, hj⟩
    · cases z
    · obtain ⟨u, h1, h2⟩ := st.sl j t hj
      refine ⟨u, h1, ?_⟩
      have : Pno P i j = P j := by
        funext a
        exact propext ⟨fun h => h.2, fun h => ⟨hne.symm, h⟩⟩
      rw [this]; exact h2
  · obtain ⟨t, ht⟩ := st.pe j a hj.2
    exact ⟨t, by rw [List.getElem?_set_ne (Ne.symm hj.1)]; exact ht⟩
theorem ArgOk.pure (h : ArgOk C G H P P0 H0 σ io as ts vs As) : as.pu = true → ∀ A ∈ As, ∀ a, ¬ A a := by
  induction h with
  | nil => intro _ A hA; simp at hA
  | ci _ _ ih =>
    intro hp A hA a ha
    rcases List.mem_cons.mp hA with rfl | hA
    · exact ha
    · exact ih (andT hp).2 A hA a ha
  | cx _ _ _ _ _ _ ih => intro hp; cases hp
  | ct _ _ _ _ _ ih => intro hp; cases hp
/-- back in the caller -/
theorem put_back {Pc : Nat → Addr → Prop} (h : ArgOk C G1 H1 P1 P0 H0 σ io as ts vs As) : ∀ (off : Nat) (rp r : Env) (Pr : Nat → Addr → Prop),
    (∀ (j : Nat) (t : T), (maskE io rp)[j]? = some (some t) → ∃ v, vs[j]? = some v ∧ Own C G2 H2 t v (Pc (off + j))) → (∀ i j a, Pc i a → Pc j a → i = j) → Sst C G2 H2 Pr r σ → (∀ j k a, Pc (off + j) a → ¬ Pr k a) →
    ∃ Pr', Sst C G2 H2 Pr' (putBack as io rp r) σ ∧ ∀ k a, Pr' k a → Pr k a ∨ ∃ j, cxAt as j ∧ Pc (off + j) a := by
  induction h with
  | nil =>
    intro off rp r Pr hc hd st hdj
    exact ⟨Pr, by unfold putBack; exact st, fun k a z => .inl z⟩
  | ci _ _ ih =>
    intro off rp r Pr hc hd st hdj
    cases rp with
    | nil => exact ⟨Pr, by unfold putBack; exact st, fun k a z => .inl z⟩
    | cons t rp =>
      obtain ⟨Pr', s1, s2⟩ := ih (off + 1) rp r Pr (fun j t h => by
        obtain ⟨v, h1, h2⟩ := hc (j + 1) t (by simpa [maskE] using h)
        exact ⟨v, by simpa using h1, by rw [show off + 1 + j = off + (j + 1) by omega]; exact h2⟩) hd st (fun j k a h => hdj (j + 1) k a (by rw [show off + (j + 1) = off + 1 + j by omega]; exact h))
      refine ⟨Pr', by unfold putBack; exact s1, fun k a z => (s2 k a z).elim .inl fun ⟨j, hc, hj⟩ => .inr ⟨j + 1, hc, by rw [show off + (j + 1) = off + 1 + j by omega]; exact hj⟩⟩
  | ct _ _ _ _ _ ih =>
    intro off rp r Pr hc hd st hdj
    cases rp with
    | nil => exact ⟨Pr, by unfold putBack; exact st, fun k a z => .inl z⟩
    | cons t rp =>
      obtain ⟨Pr', s1, s2⟩ := ih (off + 1) rp r Pr (fun j t h => by
        obtain ⟨v, h1, h2⟩ := hc (j + 1) t (by simpa [maskE] using h)
        exact ⟨v, by simpa using h1, by rw [show off + 1 + j = off + (j + 1) by omega]; exact h2⟩) hd st (fun j k a h => hdj (j + 1) k a (by rw [show off + (j + 1) = off + 1 + j by omega]; exact h))
      refine ⟨Pr', by unfold putBack; exact s1, fun k a z => (s2 k a z).elim .inl fun ⟨j, hc, hj⟩ => .inr ⟨j + 1, hc, by rw [show off + (j + 1) = off + 1 + j by omega]; exact hj⟩⟩
  | @cx io' i as' t0 v ts' vs' A As' e _ _ _ _ _ ih =>
    intro off rp r Pr hc hd st hdj
    cases rp with
    | nil => exact ⟨Pr, by unfold putBack; exact st, fun k a z => .inl z⟩
    | cons t rp =>
      have hi : i < σ.length := ltOf e
      have step : ∃ Pi, Sst C G2 H2 Pi (r.set i t) σ ∧ ∀ k a, Pi k a → Pr k a ∨ Pc (off + 0) a := by
        cases t with
        | none => exact ⟨Pno Pr i, st.none_at, fun k a z => .inl z.2⟩
        | some t =>
          obtain ⟨w, h1, h2⟩ := hc 0 t rfl
          simp at h1
          subst h1
          have st2 := st.put h2 (fun j a ha _ => hdj 0 j a ha) hi
          have : σ.set i (some v) = σ := by
            apply List.ext_getElem?
            intro j
            by_cases hj : i = j
            · subst hj
              rw [List.getElem?_set_self hi, e]
            · rw [List.getElem?_set_ne hj]
          rw [this] at st2
          exact ⟨_, st2, fun k a z => z.elim (fun z => .inr z.2) fun z => .inl z.2⟩
      obtain ⟨Pi, st2, hPi⟩ := step
      obtain ⟨Pr', s1, s2⟩ := ih (off + 1) rp (r.set i t) Pi (fun j t h => by
        obtain ⟨v, h1, h2⟩ := hc (j + 1) t (by simpa [maskE] using h)
        exact ⟨v, by simpa using h1, by rw [show off + 1 + j = off + (j + 1) by omega]; exact h2⟩) hd st2 (fun j k a h z => by
          rcases hPi k a z with z | z
          · exact hdj (j + 1) k a (by rw [show off + (j + 1) = off + 1 + j by omega]; exact h) z
          · have := hd _ _ a h z
            omega)
      refine ⟨Pr', by unfold putBack; exact s1, fun k a z => ?_⟩
      rcases s2 k a z with z | ⟨j, hc, hj⟩
      · exact (hPi k a z).elim .inl fun z => .inr ⟨0, trivial, z⟩
      · exact .inr ⟨j + 1, hc, by rw [show off + (j + 1) = off + 1 + j by omega]; exact hj⟩
/-- a def's run from a caller -/
theorem call_core {f : Fn} {E : XK} {Q : VK} {t : T} {rp r1 : Env} (hio : f.io = io) (st1 : Sst C G1 H1 P1 r1 σ) (s1 : Stp G H P G1 H1 P1) (ok : ArgOk C G1 H1 P1 P H σ io as ts vs As) (hf : f.run ts = some (t, rp))
    (k : ∀ v G2 H2 P2 P3 A, Sst C G2 H2 P3 (putBack as io rp r1) σ → Stp G H P G2 H2 P3 → Own C G2 H2 t v A → (∀ i a, A a → ¬ P3 i a) → (∀ a, A a → (∃ j, P j a) ∨ H a = none) → (as.pu = true → Same H1 H2) →
      Sst C G2 H2 P2 (maskE io rp) (vs.map some) → (∀ i a, A a → ¬ P2 i a) → (∀ i a, P2 i a → (∃ j, P j a) ∨ H a = none) → (∀ i j a, P2 i a → ¬ cxAt as i → ¬ P3 j a) → Q v H2) : spFn C f vs H1 Q E := by
  refine ⟨G1, PAs As, ts, t, rp, ok.sst st1.gh, hf, by rw [hio, ok.len.1], fun v G2 H2 P2 A st2 s2 o n b => ?_⟩
  have hb := ok.base
  have hPA : ∀ j a, PAs As j a → ((∃ j, P j a) ∨ H a = none) ∧ G1 a = none ∧ H1 a ≠ none ∧ ∀ j, ¬ P1 j a := fun j a ⟨A, h1, h2⟩ => hb A (List.mem_of_getElem? h1) a h2
  have hfar : ∀ k a, P1 k a → ¬ ((∃ j, PAs As j a) ∨ H1 a = none) := fun k a hk z => by
    rcases z with ⟨j, hj⟩ | z
    · exact (hPA j a hj).2.2.2 k hk
    · exact (st1.dom hk).2 z
  have stc : Sst C G2 H2 P1 r1 σ := by
    refine ⟨st1.len, st2.gh, fun i t e => ?_, st1.pe, st1.dj⟩
    obtain ⟨u, h1, h2⟩ := st1.sl i t e
    exact ⟨u, h1, (Own.stays s2 h2 fun j a ha z => (hPA j a z).2.2.2 i ha).1⟩
  rw [hio] at st2
  obtain ⟨P3, st3, hP3⟩ := put_back (Pc := P2) ok 0 rp r1 P1 (fun j t h => by
    obtain ⟨u, h1, h2⟩ := st2.sl j t h
    rw [List.getElem?_map] at h1
    cases hv : vs[j]? with
    | none => rw [hv] at h1; cases h1
    | some w =>
      rw [hv] at h1
      cases h1
      exact ⟨_, rfl, by rw [Nat.zero_add]; exact h2⟩) st2.dj stc (fun j k a h z => hfar k a z (s2.pp _ a h))
  have hbase : ∀ a, (∃ j, PAs As j a) ∨ H1 a = none → (∃ j, P j a) ∨ H a = none := fun a z => by
    rcases z with ⟨j, z⟩ | z
    · exact (hPA j a z).1
    · exact .inr (s1.ld a z)
  refine k v G2 H2 P2 P3 A st3 ⟨s1.gg.trans s2.gg, fun a u h n0 => s2.kp a u (s1.kp a u h n0) fun j z => ?_, fun a h => s1.ld a (s2.ld a h), fun j a z => ?_, fun a h n0 => ?_⟩ o (fun j a ha z => ?_) (fun a ha => hbase a (b a ha)) (fun hpu => ?_) st2 n (fun i a z => hbase a (s2.pp i a z)) (fun i j a z hc z3 => ?_)
  · exact (hPA j a z).1.elim (fun ⟨j, hj⟩ => n0 j hj) fun z => by rw [h] at z; cases z
  · rcases hP3 j a z with z | ⟨j, _, z⟩
    · exact s1.pp j a z
    · exact hbase a (s2.pp _ a z)
  · by_cases h1 : G1 a = none
    · exact hbase a (s2.gn a h1 n0)
    · exact s1.gn a h h1
  · rcases hP3 j a z with z | ⟨j, _, z⟩
    · exact hfar j a z (b a ha)
    · exact n _ a ha z
  · refine fun a u h => s2.kp a u h fun j z => ?_
    obtain ⟨A', h1, h2⟩ := z
    exact ok.pure hpu A' (List.mem_of_getElem? h1) a h2
  · rcases hP3 j a z3 with z3 | ⟨j', hj', z3⟩
    · exact hfar j a z3 (s2.pp i a z)
    · have := st2.dj _ _ a z z3
      rw [Nat.zero_add] at this
      subst this
      exact hc hj'
end

section
variable {X : Cx} {C : Ct} {e o : Expr} {es : List Expr} {ee : E} {as : Ar} {io : List Bool} {p pos apos : Pos} {K : T → Prop} {I : V → Hp → Prop} {σ : St} {H : Hp} {Q : List V → Hp → Prop}
theorem tAr_nil (q : tAr C [] .nil K σ H Q) : Q [] H := by
  obtain ⟨G, P, r, ts, r1, st, e, _, k⟩ := q
  simp only [eva] at e
  cases e
  exact k [] G H P [] st (Stp.refl ..) .nil fun _ => Same.refl _
/-- the first argument, then the others; I: what is known of the first -/
theorem split_ci (hI : ∀ t v A G H, Same G H → Own C G H t v A → K t → I v H) (q : tAr C (false :: io) (.ci ee as) K σ H Q) : tE C ee σ H fun v H1 => I v H1 ∧ tAr C io as (fun _ => True) σ H1 fun vs H2 => Q (v :: vs) H2 := by
  obtain ⟨G, P, r, ts, r1, st, e, hK, k⟩ := q
  simp only [eva] at e
  split at e
  · rename_i x r2 h1
    split at e
    · rename_i ts2 r3 h2
      cases e
      refine tE_settle st h1 fun v1 G1 P1 H1 st1 s1 rp p1 => ⟨hI _ v1 (fun _ => False) G1 H1 st1.gh (.fr rp fun _ z => z) (hK _ rfl), G1, P1, _, ts2, _, st1, h2, fun _ _ => trivial, fun vs G2 H2 P2 As st2 s2 ok p2 => ?_⟩
      exact k (v1 :: vs) G2 H2 P2 _ st2 (s1.trans s2) (.ci (Rep.mono s2.gg rp) (ok.weak fun a h => s1.base h)) fun h => (p1 (andT h).1).trans (p2 (andT h).2)
    · cases e
  · cases e
theorem split_cx {i : Nat} (hI : ∀ t v A G H, Same G H → Own C G H t v A → K t → I v H) (q : tAr C (true :: io) (.cx i as) K σ H Q) : tVar i σ H fun v H1 => I v H1 ∧ tAr C io as (fun _ => True) σ H1 fun vs H2 => Q (v :: vs) H2 := by
  obtain ⟨G, P, r, ts, r1, st, e, hK, k⟩ := q
  simp only [eva] at e
  split at e
  · rename_i t ht
    split at e
    · rename_i ts2 r3 h2
      cases e
      obtain ⟨v, h1, o⟩ := st.sl i t ht
      have n0 : ∀ j a, P i a → ¬ Pno P i j a := fun j a ha z => z.1 (st.dj _ _ _ z.2 ha)
      refine ⟨v, h1, hI t v _ G H st.gh o (hK _ rfl), G, Pno P i, _, ts2, _, st.none_at, h2, fun _ _ => trivial, fun vs G2 H2 P2 As st2 s2 ok p2 => ?_⟩
      obtain ⟨o2, n2⟩ := Own.stays s2 o n0
      have hb := ok.base
      refine k (v :: vs) G2 H2 P2 _ st2 (((Stp.refl G H P).sub fun _ _ z => z.2).trans s2) (.cx h1 o2 n2 (fun a ha => .inl ⟨i, ha⟩) (fun B hB a ha hb' => ?_) (ok.weak fun a h => ?_)) fun h => by cases h
      · rcases (hb B hB a hb').1 with ⟨j, hj⟩ | z
        · exact n0 j a ha hj
        · exact (Own.dom o ha).2 z
      · exact h.elim (fun ⟨j, hj⟩ => .inl ⟨j, hj.2⟩) .inr
    · cases e
  · cases e
theorem split_ct (hI : ∀ t v A G H, Same G H → Own C G H t v A → K t → I v H) (q : tAr C (true :: io) (.ct ee as) K σ H Q) : tE C ee σ H fun v H1 => I v H1 ∧ tAr C io as (fun _ => True) σ H1 fun vs H2 => Q (v :: vs) H2 := by
  obtain ⟨G, P, r, ts, r1, st, e, hK, k⟩ := q
  simp only [eva] at e
  split at e
  · rename_i x r2 h1
    split at e
    · rename_i ts2 r3 h2
      cases e
      cases x with
      | b j t =>
        refine tE_settle st h1 fun v1 G1 P1 H1 st1 s1 rp p1 => ⟨hI _ v1 (fun _ => False) G1 H1 st1.gh (.fr rp fun _ z => z) (hK _ rfl), G1, P1, _, ts2, _, st1, h2, fun _ _ => trivial, fun vs G2 H2 P2 As st2 s2 ok p2 => ?_⟩
        exact k (v1 :: vs) G2 H2 P2 ((fun _ => False) :: As) st2 (s1.trans s2) (.ct (.fr (Rep.mono s2.gg rp) fun _ z => z) (fun _ _ z => z.elim) (fun _ z => z.elim) (fun _ _ _ z => z.elim) (ok.weak fun a h => s1.base h)) fun h => by cases h
      | v t =>
        refine tE_at st h1 fun v1 G1 H1 P1 A st1 s1 res hA p1 => ?_
        obtain ⟨o, n⟩ := res
        refine ⟨hI t v1 A G1 H1 st1.gh o (hK _ rfl), G1, P1, _, ts2, _, st1, h2, fun _ _ => trivial, fun vs G2 H2 P2 As st2 s2 ok p2 => ?_⟩
        obtain ⟨o2, n2⟩ := Own.stays s2 o fun j a ha => n j a ha
        have hb := ok.base
        refine k (v1 :: vs) G2 H2 P2 (A :: As) st2 (s1.trans s2) (.ct o2 n2 hA (fun B hB a ha hb' => ?_) (ok.weak fun a h => s1.base h)) fun h => by cases h
        rcases (hb B hB a hb').1 with ⟨j, hj⟩ | z
        · exact n j a ha hj
        · exact (Own.dom o ha).2 z
    · cases e
  · cases e
theorem gr_nil : PA X [] (tAr C [] .nil) := PA.imp pa_nil fun σ H Q q => tAr_nil q
theorem gr_ci (hn : notStar e = true) (he : PE X e (tE C ee)) (hs : PA X es (tAr C io as)) : PA X (e :: es) (tAr C (false :: io) (.ci ee as)) :=
  PA.imp (pa_cons he hs (star_cons hn)) fun σ H Q q => tE_mono (split_ci (I := fun _ _ => True) (fun _ _ _ _ _ _ _ _ => trivial) q) fun _ _ z => z.2
theorem gr_ct (hn : notStar e = true) (he : PE X e (tE C ee)) (hs : PA X es (tAr C io as)) : PA X (e :: es) (tAr C (true :: io) (.ct ee as)) :=
  PA.imp (pa_cons he hs (star_cons hn)) fun σ H Q q => tE_mono (split_ct (I := fun _ _ => True) (fun _ _ _ _ _ _ _ _ => trivial) q) fun _ _ z => z.2
theorem gr_cx {i : Nat} (hn : notStar e = true) (he : PE X e (tVar i)) (hs : PA X es (tAr C io as)) : PA X (e :: es) (tAr C (true :: io) (.cx i as)) :=
  PA.imp (pa_cons he hs (star_cons hn)) fun σ H Q q => let ⟨v, h1, h2⟩ := split_cx (I := fun _ _ => True) (fun _ _ _ _ _ _ _ _ => trivial) q; ⟨v, h1, h2.2⟩
/-- a def's call -/
theorem call_read {f : Fn} {Q : VK} {E : XK} (hio : f.io = io) (q : tE C (.call f as) σ H Q) : tCall (spFn C f) [] E (tAr C io as) σ H Q := by
  obtain ⟨G, P, r, y, r', st, e, k⟩ := q
  simp only [ev] at e
  split at e
  · rename_i ts r1 h1
    split at e
    · rename_i t rp hf
      cases e
      refine ⟨G, P, r, ts, r1, st, h1, fun _ _ => trivial, fun vs G1 H1 P1 As st1 s1 ok p1 => ?_⟩
      show spFn C f (vs ++ []) H1 Q E
      rw [List.append_nil]
      refine call_core hio st1 s1 ok hf fun v G2 H2 P2 P3 A st3 s3 o n b pu _ _ _ _ => ?_
      exact k v G2 H2 P3 A (by rw [hio]; exact st3) s3 ⟨o, fun i a ha => n i a ha⟩ b fun hpu => (p1 hpu).trans (pu hpu)
    · cases e
  · cases e
theorem ge_call {f : Fn} {k : Nat} {fa : Addr} {fd : FuncData} {ps : List Str} {x : Str} (F : FnOk X.prog X.w X.K X.mg X.base CX0 k fa fd ps (spFn C f)) (hr : Room k X.A) (hg : Gl X x) (hdb : (x == ("__debug__" : Str)) = false)
    (hm : X.mg x = some (.ref fa)) (hk : PySem.W.keepIn X.K (.ref fa) = true) (hb : Binds X.K fd ps []) (hn : noStars es = true) (h0 : es = [] → as = .nil ∧ f.io = []) (ha : PA X es (tAr C f.io as)) : PE X (.Call (.Name x p) es [] pos) (tE C (.call f as)) := by
  have px : Passes CX0 X (fun _ _ _ => False) := fun _ _ _ _ _ _ _ h => h.elim
  cases es with
  | nil =>
    refine PE.imp (pe_call0 F hr hg hm hk hb .nil px hdb) fun σ H Q q => ?_
    obtain ⟨e1, e2⟩ := h0 rfl
    have q' := call_read (E := fun _ _ _ => False) rfl q
    rw [e1, e2] at q'
    exact tAr_nil q'
  | cons e es =>
    simp only [noStars, List.all_cons, Bool.and_eq_true] at hn
    exact PE.imp (pe_call F hr hg hm hk hb .nil px ha hdb (star_cons hn.1) (star_no (by unfold noStars; exact hn.2))) fun σ H Q q => call_read rfl q
end
end FJ

/-! Objects, dict displays, d.update. -/
namespace FJ
open PySem L2

/-! ### fields -/
theorem zip_lookup {m : Str} {v : V} : ∀ {N : List Str} {vs : List V} {k : Nat}, N.Nodup → N[k]? = some m → vs[k]? = some v → (N.zip vs).lookup m = some v
  | [], _, _, _, h, _ => by simp at h
  | _ :: _, [], _, _, _, h => by simp at h
  | x :: N, u :: vs, 0, _, h1, h2 => by
    simp at h1 h2
    subst h1; subst h2
    simp
  | x :: N, u :: vs, k + 1, nd, h1, h2 => by
    have hne : (m == x) = false := by
      have h1' : N[k]? = some m := by simpa using h1
      have := List.mem_of_getElem? h1'
      have n1 := (List.nodup_cons.mp nd).1
      simp only [beq_eq_false_iff_ne, ne_eq]
      rintro rfl
      exact n1 this
    rw [List.zip_cons_cons, List.lookup_cons, hne]
    exact zip_lookup (List.nodup_cons.mp nd).2 (by simpa using h1) (by simpa using h2)
theorem zip_lookup_no {m : Str} : ∀ {N : List Str} {vs : List V}, m ∉ N → (N.zip vs).lookup m = none
  | [], _, _ => rfl
  | _ :: _, [], _ => rfl
  | x :: N, u :: vs, h => by
    have hne : (m == x) = false := by
      simp only [beq_eq_false_iff_ne, ne_eq]
      rintro rfl
      exact h (List.mem_cons_self ..)
    rw [List.zip_cons_cons, List.lookup_cons, hne]
    exact zip_lookup_no fun z => h (List.mem_cons_of_mem _ z)
theorem putF_zip {m : Str} {y : V} : ∀ {N : List Str} {vs : List V} {k : Nat}, N.Nodup → N[k]? = some m → (k < vs.length → putF m y (N.zip vs) = N.zip (vs.set k y)) ∧ (k = vs.length → putF m y (N.zip vs) = N.zip (vs ++ [y]))
  | [], _, _, _, h => by simp at h
  | x :: N, [], 0, nd, h => by
    simp at h
    subst h
    exact ⟨fun z => by simp at z, fun _ => by simp [putF]⟩
  | x :: N, [], k + 1, nd, h => ⟨fun z => by simp at z, fun z => by simp at z⟩
  | x :: N, u :: vs, 0, nd, h => by
    simp at h
    subst h
    exact ⟨fun _ => by simp [putF], fun z => by simp at z⟩
  | x :: N, u :: vs, k + 1, nd, h => by
    have h' : N[k]? = some m := by simpa using h
    have hne : ¬ x = m := by
      rintro rfl
      exact (List.nodup_cons.mp nd).1 (List.mem_of_getElem? h')
    obtain ⟨a, b⟩ := putF_zip (y := y) (vs := vs) (List.nodup_cons.mp nd).2 h'
    refine ⟨fun z => ?_, fun z => ?_⟩
    · simp only [List.zip_cons_cons, putF, if_neg hne, List.set_cons_succ]
      rw [a (by simpa using z)]
    · simp only [List.zip_cons_cons, putF, if_neg hne, List.cons_append]
      rw [b (by simpa using z)]
/-- a class's field -/
structure FOk (K : PySem.W.Frag) (C : Ct) (c : Nat) (m : Str) (k : Nat) : Prop where
  cl : Cls K (C.cls c)
  na : NoAttr K (C.cls c) m
  at_ : (C.fld c)[k]? = some m
  nd : (C.fld c).Nodup
  few : (C.fld c).length < 1000
/-- a class's method -/
structure MOk (P : Program) (w : World) (K : PySem.W.Frag) (mg : Str → Option Value) (base : Heap) (C : Ct) (k : Nat) (c : Nat) (m : Str) (f : Fn) : Prop where
  ex : ∃ fa fd ps, Cls K (C.cls c) ∧ Meth K (C.cls c) m fa ∧ FnOk P w K mg base CX0 k fa fd ps (spFn C f) ∧ Binds K fd ps [] ∧ m ∉ C.fld c
/-- a class that things are asked for -/
structure IOk (K : PySem.W.Frag) (mg : Str → Option Value) (C : Ct) (x : Str) (c n : Nat) (s : List Nat) : Prop where
  at_ : mg x = some (.ref (C.cls c))
  obj : ∀ q, q < n → Cls K (C.cls q) ∧ PySem.W.findIn K (.ref (C.cls q)) "__class__" = some (some (.builtin "object.__class__")) ∧ PySem.W.specialIn K (.builtin "object.__class__") "__get__" = some (some (.builtin "getset_descriptor.__get__")) ∧
    PySem.W.takesIn K (.builtin "object.__class__") = some true ∧ PySem.W.mroIn K (C.cls q) (.type "object") = some true ∧ PySem.W.kitOne K (.ref (C.cls q)) (.ref (C.cls c)) = some (s.contains q)
  bas : ∀ T ∈ ["NoneType", "bool", "int", "str", "tuple", "list", "dict"], PySem.W.kitOne K (.type T) (.ref (C.cls c)) = some false
/-- a class made by its __init__ (level j + 1 in all) -/
structure NOk (P : Program) (w : World) (K : PySem.W.Frag) (mg : Str → Option Value) (base : Heap) (C : Ct) (k : Nat) (x : Str) (c : Nat) (f : Fn) : Prop where
  ex : ∃ j fa fd ps, j + 1 ≤ k ∧ mg x = some (.ref (C.cls c)) ∧ Mk K (C.cls c) fa ∧ FnOk P w K mg base CX0 j fa fd ps (spFn C f) ∧ Binds K fd ps []

section
variable {X : Cx} {C : Ct} {a e o : Expr} {es : List Expr} {ea ee : E} {as : Ar} {p pos apos : Pos} {m : Str}
theorem ge_isiC {x : Str} {c n : Nat} {s : List Nat} {np : Pos} (hK : X.K = C.K) (I : IOk X.K X.mg C x c n s) (hg : Gl X "isinstance") (hm : X.mg "isinstance" = none) (hgx : Gl X x) (hdb : (x == ("__debug__" : Str)) = false) (hn : notStar a = true) (ha : PE X a (tE C ea)) :
    PE X (.Call (.Name "isinstance" p) [a, .Name x np] [] pos) (tE C (.isi ea (.cls n s))) := by
  have hb : PE X (.Name x np) (tC (.ref (C.cls c))) := pe_glob hgx I.at_ rfl hdb
  refine PE.imp (pe_callB call_isi hg hm PyProof.Rows.boot_isinstance (pa_cons ha (pa_cons hb pa_nil rfl) (star_cons hn)) (by decide) (by decide) (star_cons hn) rfl) fun σ H Q ⟨G, P, r, y, r', st, e, k⟩ => ?_
  simp only [ev] at e
  obtain ⟨x1, r1, h1, e⟩ := R.look_ok e
  obtain ⟨d, hd, rfl, rfl⟩ := ofD_ok e
  refine tE_look true st h1 fun v1 G1 H1 P1 st1 s1 u1 p1 => ?_
  have rp := u1 _ _ _ (Stp.refl ..) st1.gh fun _ => Same.refl _
  generalize x1.toD = dx at *
  have bas : ∀ T : String, T ∈ ["NoneType", "bool", "int", "str", "tuple", "list", "dict"] → nameD dx = T → ((∀ c fs, dx ≠ .obj c fs) ∧ ∀ a b c, dx ≠ .tab a b c) → d = .bl false → ∃ (x c' : V) (t u : Value) (b : Bool), [v1, V.ref (C.cls c)] = [x, c'] ∧ ClsV c' u ∧ TyX X.K H1 x t ∧ PySem.W.kitOne X.K t u = some b ∧ Q (.bl b) H1 := fun T hT en nn hd => by
    subst hd
    exact ⟨v1, .ref (C.cls c), _, _, false, rfl, .own _, ty_rep hK rp nn, by rw [en]; exact I.bas T hT, k.fr st1 s1 p1 .bl⟩
  cases dx with
  | obj q fs =>
    simp only [isD] at hd
    split at hd
    · rename_i hq
      cases hd
      obtain ⟨c1, c2, c3, c4, c5, c6⟩ := I.obj q hq
      cases rp with
      | obj h rs => exact ⟨_, .ref (C.cls c), _, _, _, rfl, .own _, .base (.ins h c1 c2 c3 c4 c5), c6, k.fr st1 s1 p1 .bl⟩
    · cases hd
  | tab _ _ _ => cases hd
  | scr _ => cases hd
  | non => cases hd; exact bas "NoneType" (by simp) rfl ⟨fun _ _ z => (by cases z), fun _ _ _ z => (by cases z)⟩ rfl
  | bl _ => cases hd; exact bas "bool" (by simp) rfl ⟨fun _ _ z => (by cases z), fun _ _ _ z => (by cases z)⟩ rfl
  | int _ => cases hd; exact bas "int" (by simp) rfl ⟨fun _ _ z => (by cases z), fun _ _ _ z => (by cases z)⟩ rfl
  | str _ => cases hd; exact bas "str" (by simp) rfl ⟨fun _ _ z => (by cases z), fun _ _ _ z => (by cases z)⟩ rfl
  | tup _ => cases hd; exact bas "tuple" (by simp) rfl ⟨fun _ _ z => (by cases z), fun _ _ _ z => (by cases z)⟩ rfl
  | lst _ => cases hd; exact bas "list" (by simp) rfl ⟨fun _ _ z => (by cases z), fun _ _ _ z => (by cases z)⟩ rfl
  | dK _ _ => cases hd; exact bas "dict" (by simp) rfl ⟨fun _ _ z => (by cases z), fun _ _ _ z => (by cases z)⟩ rfl
  | dT _ _ => cases hd; exact bas "dict" (by simp) rfl ⟨fun _ _ z => (by cases z), fun _ _ _ z => (by cases z)⟩ rfl
theorem ge_fld {f : Nat → Option Nat} (hf : ∀ c k, f c = some k → FOk X.K C c m k) (hb : baseOk a = true) (ha : PE X a (tE C ea)) : PE X (.Attribute a m pos) (tE C (.fld ea f)) := by
  refine PE.imp (pe_fld ha (base_ok hb)) fun σ H Q ⟨G, P, r, y, r', st, e, k⟩ => ?_
  simp only [ev] at e
  obtain ⟨x1, r1, h1, e⟩ := R.use_ok e
  obtain ⟨d, hd, rfl, rfl⟩ := ofD_ok e
  refine tE_use true st h1 fun v1 G1 H1 P1 st1 s1 u1 p1 => ?_
  have u := u1 _ _ _ (Stp.refl ..) fun _ => Same.refl _
  generalize hx : x1.toD = dx at *
  cases dx with
  | obj c ds =>
    simp only [fldD] at hd
    split at hd
    · rename_i kk hk
      obtain ⟨q, dd, vs, rfl, h, rs⟩ := u.obj st1.gh
      obtain ⟨v, h2, rp⟩ := Reps.get rs hd
      have F := hf c kk hk
      exact ⟨q, _, dd, _, v, rfl, h, F.cl, F.na, zip_lookup F.nd F.at_ h2, k.fr st1 s1 p1 rp⟩
    · cases hd
  | _ => cases hd
theorem gs_setf {i : Nat} {x : Str} {np fpos : Pos} {f : Nat → Option Nat} (hf : ∀ c k, f c = some k → FOk X.K C c m k) (hN : X.N[i]? = some x) (hv : Vis X.env.scope x) (hd : (x == ("__debug__" : Str)) = false) (hcd : (x == ("__classdict__" : Str)) = false) (hcm : isComp e = false) (he : PE X e (tE C ee)) :
    PS X (.Assign [.Attribute (.Name x np) m fpos] e pos) (tS C (.setf i f ee)) := by
  refine PS.imp (ps_fld (pe_var hN hv hd hcd) he ?_) fun D σ H ⟨G, P, r, st, k⟩ => ?_
  · cases e <;> first | rfl | (simp [isComp] at hcm)
  · simp only [evS] at k
    split at k
    · rename_i t0 h0
      split at k
      · rename_i x1 r1 h1
        split at k
        · rename_i c ds h3
          split at k
          · rename_i kk hk
            obtain ⟨v0, e0, o0⟩ := st.sl i _ h0
            have F := hf c kk hk
            refine tE_settle st h1 fun w G1 P1 H1 st1 s1 rp1 _ => ⟨v0, e0, ?_⟩
            obtain ⟨v1, e1, o1⟩ := st1.sl i _ h3
            rw [e0] at e1
            cases e1
            obtain ⟨q, ob1, eq1, hq, f1, hA⟩ := o1.at
            cases eq1
            cases f1 with
            | @obj _ dd _ vs rs =>
              have few : ((C.fld c).zip vs).length < 1000 := by
                rw [List.length_zip]; have := F.few; omega
              obtain ⟨pz1, pz2⟩ := putF_zip (y := w) (vs := vs) F.nd F.at_
              rw [Reps.length rs] at k
              split at k
              · rename_i hlt
                obtain ⟨st2, s2⟩ := st1.updO h3 hA (.obj (dx := dd) (Reps.set kk rp1 rs))
                exact ⟨q, _, dd, _, rfl, hq, F.cl, F.na, few, by rw [pz1 hlt]; exact k σ G1 _ P1 st2 (s1.trans s2) Fr.refl⟩
              · split at k
                · rename_i heq
                  obtain ⟨st2, s2⟩ := st1.updO h3 hA (.obj (dx := dd) (Reps.app rs (Reps.one rp1)))
                  exact ⟨q, _, dd, _, rfl, hq, F.cl, F.na, few, by rw [pz2 heq]; exact k σ G1 _ P1 st2 (s1.trans s2) Fr.refl⟩
                · exact k.elim
          · exact k.elim
        · exact k.elim
      · exact k.elim
    · exact k.elim

/-! ### a new object -/
theorem new_read {x : Str} {c : Nat} {f : Fn} {io : List Bool} {σ : St} {H : Hp} {Q : VK} {E : XK} (hio : f.io = true :: io) (q : tE C (.new c f as) σ H Q) : tMake (C.cls c) (spFn C f) [] E (tAr C io as) σ H Q := by
  obtain ⟨G, P, r, y, r', st, e, k⟩ := q
  simp only [ev] at e
  split at e
  · rename_i ts r1 h1
    split at e
    · rename_i t0 rp hf
      cases e
      refine ⟨G, P, r, ts, r1, st, h1, fun _ _ => trivial, fun vs G1 H1 P1 As st1 s1 ok p1 => ?_⟩
      intro x dx hx hdx hne
      show spFn C f (.ref x :: (vs ++ [])) _ _ E
      rw [List.append_nil]
      have gx : G1 x = none := Same.no st1.gh hx
      have hx2 : upd H1 dx (.own x) x = none := by rw [upd_ne (Ne.symm hne)]; exact hx
      have gr : Grow G1 H1 G1 (upd (upd H1 dx (.own x)) x (.ins (C.cls c) dx [])) := (Grow.nu st1.gh hdx).trans (Grow.nu (st1.gh.trans (Same.nu hdx)) hx2)
      have st2 := st1.grow gr
      have hox : Own C G1 (upd (upd H1 dx (.own x)) x (.ins (C.cls c) dx [])) (.ow (.obj c [])) (.ref x) (fun a => a = x) := by
        refine .ow upd_same gx ?_ fun _ => Iff.rfl
        have := Flat.obj (C := C) (G := G1) (c := c) (dx := dx) (ds := []) (vs := []) .nil
        rw [List.zip_nil_right] at this
        exact this
      have ok2 : ArgOk C G1 (upd (upd H1 dx (.own x)) x (.ins (C.cls c) dx [])) P1 P H σ (true :: io) (.ct (.cst .non) as) (.ow (.obj c []) :: ts) (.ref x :: vs) ((fun a => a = x) :: As) :=
        .ct hox (fun j a ha hp => (st1.dom hp).2 (by rw [ha]; exact hx)) (fun a ha => .inr (by rw [ha]; exact s1.ld x hx)) (fun B hB a ha hb => (ok.base B hB a hb).2.2.1 (by rw [ha]; exact hx)) (ok.grow gr)
      refine call_core (r1 := r1) hio st2 (s1.trans (Stp.grow gr)) ok2 hf fun v G2 H2 P2 P3 A st3 s3 o n b pu st4 n4 b4 dj4 => ?_
      have hv : v = .non := by
        cases o with
        | fr rp0 _ => exact rp0.nonv
      refine ⟨hv, ?_⟩
      obtain ⟨w, hw, ow⟩ := st4.sl 0 t0 (by simp [maskE])
      simp at hw
      subst hw
      refine k (.ref x) G2 H2 P3 (P2 0) ?_ s3 ⟨ow, fun i a ha => dj4 0 i a ha (fun z => z)⟩ (fun a ha => b4 0 a ha) fun z => by cases z
      rw [hio]
      exact st3
    · cases e
  · cases e
theorem ge_new {c : Nat} {f : Fn} {io : List Bool} {x : Str} {k : Nat} (hN : NOk X.prog X.w X.K X.mg X.base C k x c f) (hio : f.io = true :: io) (hr : Room k X.A) (hg : Gl X x) (hdb : (x == ("__debug__" : Str)) = false) (hn : noStars es = true) (h0 : es = [] → as = .nil ∧ io = [])
    (ha : PA X es (tAr C io as)) : PE X (.Call (.Name x p) es [] pos) (tE C (.new c f as)) := by
  obtain ⟨j, fa, fd, ps, hj, hm, M, F, hb⟩ := hN.ex
  have px : Passes CX0 X (fun _ _ _ => False) := fun _ _ _ _ _ _ _ h => h.elim
  cases es with
  | nil =>
    refine PE.imp (pe_make0 M F (hr.mono hj) hg hm hb .nil px hdb) fun σ H Q q => ?_
    obtain ⟨e1, e2⟩ := h0 rfl
    have q' := new_read (x := x) (E := fun _ _ _ => False) hio q
    rw [e1, e2] at q'
    exact tAr_nil q'
  | cons e es =>
    simp only [noStars, List.all_cons, Bool.and_eq_true] at hn
    exact PE.imp (pe_make M F (hr.mono hj) hg hm hb .nil px ha hdb (star_cons hn.1) (star_no (by unfold noStars; exact hn.2))) fun σ H Q q => new_read (x := x) hio q

/-! ### a method's call -/
/-- v is an instance of the class c -/
def InsAt (C : Ct) (c : Nat) (v : V) (H : Hp) : Prop := ∃ a dx vs, v = .ref a ∧ H a = some (.ins (C.cls c) dx ((C.fld c).zip vs))
theorem toDs_obj {t : T} {c : Nat} {ds : List D} {v : V} {A : Addr → Prop} {G H : Hp} (g : Same G H) (o : Own C G H t v A) (h : t.toD = .obj c ds) : InsAt C c v H := by
  cases o with
  | fr rp _ =>
    rw [show (T.fr _).toD = _ by simp [T.toD]; rfl] at h
    subst h
    cases rp with
    | obj h1 _ => exact ⟨_, _, _, rfl, g _ _ h1⟩
  | ow h1 h2 f _ =>
    rw [show (T.ow _).toD = _ by simp [T.toD]; rfl] at h
    subst h
    cases f with
    | obj rs => exact ⟨_, _, _, rfl, h1⟩
  | no h1 _ _ _ _ =>
    simp only [T.toD] at h
    cases h
    exact ⟨_, _, _, rfl, h1⟩
  | nl _ _ _ _ _ => simp [T.toD] at h
  | nt _ _ _ _ _ => simp [T.toD] at h
  | nd _ _ _ _ _ _ => simp [T.toD] at h
theorem meth_read {ms : Nat → Option Fn} {σ : St} {H : Hp} {Q : VK} {E : XK} (q : tE C (.meth ms as) σ H Q) : ∃ c f, ms c = some f ∧ tAr C f.io as (fun t => ∃ ds, t.toD = .obj c ds) σ H fun vs H1 => spFn C f vs H1 Q E := by
  obtain ⟨G, P, r, y, r', st, e, k⟩ := q
  simp only [ev] at e
  split at e
  · rename_i t ts r1 h1
    split at e
    · rename_i c ds hc
      split at e
      · rename_i f hm
        split at e
        · rename_i u rp hf
          cases e
          refine ⟨c, f, hm, G, P, r, _, r1, st, h1, fun t' ht' => ?_, fun vs G1 H1 P1 As st1 s1 ok p1 => ?_⟩
          · cases ht'
            exact ⟨ds, hc⟩
          · refine call_core rfl st1 s1 ok hf fun v G2 H2 P2 P3 A st3 s3 o n b pu _ _ _ _ => ?_
            exact k v G2 H2 P3 A st3 s3 ⟨o, fun i a ha => n i a ha⟩ b fun hpu => (p1 hpu).trans (pu hpu)
        · cases e
      · cases e
    · cases e
  · cases e
theorem meth_eval (hb : baseOk o = true) (hl : (apos.endLine == pos.line) = true) (hn : noStars es = true) (hlen : es.length < 29) : eval (.Call (.Attribute o m apos) es [] pos) X.env = (do
      let ov ← eval o X.env
      standAt apos.atName
      let (f, first) ← holding [ov] (getMethod ov m (do return (← importBound o X.env).getD true))
      callWith pos f first (backTo pos (starEach es X.env)) (backToKw pos (keywordEach [] X.env))) := by
  have hs : (backTo pos (starEach es X.env)).all (!·.1) = true := by
    have := star_no hn (env := X.env) (pos := pos)
    rw [List.any_eq_false] at this
    rw [List.all_eq_true]
    intro x hx
    have h1 := this x hx
    simpa using h1
  have hf : methodCallForm (es.length + ([] : List Keyword).length) (backTo pos (starEach es X.env)) (backToKw pos (keywordEach [] X.env)) = true := by
    unfold methodCallForm
    rw [hs]
    have : (backToKw pos (keywordEach [] X.env)) = [] := rfl
    rw [this]
    simp
    omega
  show (do
    let ov ← attributeBase o m X.env (eval o X.env)
    standAt apos.atName
    methodCall o m apos pos X.env ov (es.length + ([] : List Keyword).length) (backTo pos (starEach es X.env)) (backToKw pos (keywordEach [] X.env))) = _
  rw [base_ok hb]
  unfold methodCall calleeOf methodCallPos
  rw [hf, hl]
  simp
/-- modes of the receiver -/
def recv (X : Cx) (C : Ct) (o : Expr) : Ar → List Bool → Ar → List Bool → Prop
  | .ci ee as, false :: io, as', io' => as' = as ∧ io' = io ∧ PE X o (tE C ee)
  | .ct ee as, true :: io, as', io' => as' = as ∧ io' = io ∧ PE X o (tE C ee)
  | .cx i as, true :: io, as', io' => as' = as ∧ io' = io ∧ PE X o (tVar i)
  | _, _, _, _ => False
theorem ge_meth {ms : Nat → Option Fn} {k : Nat} {io io' : List Bool} {as' : Ar} (hms : ∀ c f, ms c = some f → f.io = io ∧ MOk X.prog X.w X.K X.mg X.base C k c m f) (hr : Room k X.A) (hb : baseOk o = true) (hl : (apos.endLine == pos.line) = true) (hn : noStars es = true) (hlen : es.length < 29)
    (h0 : es = [] → as' = .nil ∧ io' = []) (hrc : recv X C o as io as' io') (ha : PA X es (tAr C io' as')) : PE X (.Call (.Attribute o m apos) es [] pos) (tE C (.meth ms as)) := by
  have px : Passes CX0 X (fun _ _ _ => False) := fun _ _ _ _ _ _ _ h => h.elim
  have main : ∀ (ta : TE), PE X o ta → (∀ σ H (Q : List V → Hp → Prop) (K : T → Prop) (I : V → Hp → Prop), (∀ t v A G H, Same G H → Own C G H t v A → K t → I v H) → tAr C io as K σ H Q → ta σ H fun v H1 => I v H1 ∧ tAr C io' as' (fun _ => True) σ H1 fun vs H2 => Q (v :: vs) H2) →
      (∀ σ H (Q Q' : VK), (∀ v H, Q v H → Q' v H) → ta σ H Q → ta σ H Q') → PE X (.Call (.Attribute o m apos) es [] pos) (tE C (.meth ms as)) := by
    intro ta hta hsplit hmono
    have one : ∀ (i : { q : Nat × Fn // ms q.1 = some q.2 }), PE X (.Call (.Attribute o m apos) es [] pos) (fun σ H Q => tAr C io as (fun t => ∃ ds, t.toD = .obj i.1.1 ds) σ H fun vs H1 => spFn C i.1.2 vs H1 Q (fun _ _ _ => False)) := by
      rintro ⟨⟨c, f⟩, hc⟩
      obtain ⟨_, M⟩ := hms c f hc
      obtain ⟨fa, fd, ps, cl, me, F, hbd, nf⟩ := M.ex
      cases es with
      | nil =>
        obtain ⟨e1, e2⟩ := h0 rfl
        refine PE.imp (pe_meth0 hta cl me F hr hbd .nil px (meth_eval hb hl hn hlen)) fun σ H Q q => ?_
        have q' := hsplit σ H _ _ (InsAt C c) (fun t v A G H g o ⟨ds, h⟩ => toDs_obj g o h) q
        refine hmono σ H _ _ (fun v H1 z => ?_) q'
        obtain ⟨⟨a, dx, vs, rfl, ha1⟩, z2⟩ := z
        rw [e1, e2] at z2
        exact ⟨a, dx, _, rfl, ha1, zip_lookup_no nf, tAr_nil z2⟩
      | cons e es =>
        simp only [noStars, List.all_cons, Bool.and_eq_true] at hn
        refine PE.imp (pe_meth hta cl me F hr hbd .nil px ha (star_cons hn.1) (star_no (by unfold noStars; exact hn.2)) (meth_eval hb hl (by simp only [noStars, List.all_cons, Bool.and_eq_true]; exact hn) hlen)) fun σ H Q q => ?_
        have q' := hsplit σ H _ _ (InsAt C c) (fun t v A G H g o ⟨ds, h⟩ => toDs_obj g o h) q
        refine hmono σ H _ _ (fun v H1 z => ?_) q'
        obtain ⟨⟨a, dx, vs, rfl, ha1⟩, z2⟩ := z
        refine ⟨a, dx, _, rfl, ha1, zip_lookup_no nf, ?_⟩
        obtain ⟨G, P, r, ts, r1, st, he, hK, kk⟩ := z2
        exact ⟨G, P, r, ts, r1, st, he, hK, fun vs' G1 H1 P1 As st1 s1 ok p1 => by
          show spFn C f (.ref a :: (vs' ++ [])) _ _ _
          rw [List.append_nil]
          exact kk vs' G1 H1 P1 As st1 s1 ok p1⟩
    refine PE.imp (PE.any one) fun σ H Q q => ?_
    obtain ⟨c, f, hc, q'⟩ := meth_read (E := fun _ _ _ => False) q
    have hio := (hms c f hc).1
    rw [hio] at q'
    exact ⟨⟨(c, f), hc⟩, q'⟩
  cases as with
  | nil => exact hrc.elim
  | ci ee as =>
    cases io with
    | nil => exact hrc.elim
    | cons b io =>
      cases b with
      | true => exact hrc.elim
      | false =>
        obtain ⟨e1, e2, e3⟩ := hrc
        subst e1; subst e2
        exact main _ e3 (fun σ H Q K I hI q => split_ci hI q) fun σ H Q Q' hQ q => tE_mono q hQ
  | ct ee as =>
    cases io with
    | nil => exact hrc.elim
    | cons b io =>
      cases b with
      | false => exact hrc.elim
      | true =>
        obtain ⟨e1, e2, e3⟩ := hrc
        subst e1; subst e2
        exact main _ e3 (fun σ H Q K I hI q => split_ct hI q) fun σ H Q Q' hQ q => tE_mono q hQ
  | cx i as =>
    cases io with
    | nil => exact hrc.elim
    | cons b io =>
      cases b with
      | false => exact hrc.elim
      | true =>
        obtain ⟨e1, e2, e3⟩ := hrc
        subst e1; subst e2
        exact main _ e3 (fun σ H Q K I hI q => split_cx hI q) fun σ H Q Q' hQ ⟨v, h1, h2⟩ => ⟨v, h1, hQ _ _ h2⟩
end
end FJ

/-! Tuples whose parts are owned, their items; a try that runs through; a written dict walked. -/
namespace FJ
open PySem L2
section
variable {C : Ct} {G H G1 H1 H0 : Hp} {P P0 P1 : Nat → Addr → Prop} {r r' : Env} {σ : St} {io : List Bool} {as : Ar} {ts : List T} {vs : List V} {As : List (Addr → Prop)}
theorem ArgOk.owns (h : ArgOk C G H P P0 H0 σ io as ts vs As) : ∃ B, Owns C G H ts vs B ∧ ∀ a, B a → ∃ A ∈ As, A a := by
  induction h with
  | nil => exact ⟨fun _ => False, .nil fun _ z => z, fun _ z => z.elim⟩
  | ci rp _ ih =>
    obtain ⟨B, o, hB⟩ := ih
    exact ⟨fun a => False ∨ B a, .cons (.fr rp fun _ z => z) o (fun _ z => z.elim) fun a => Iff.rfl, fun a z => z.elim (fun z => z.elim) fun z => let ⟨A, h1, h2⟩ := hB a z; ⟨A, List.mem_cons_of_mem _ h1, h2⟩⟩
  | @cx _ _ _ _ _ _ _ A As _ ow _ _ d _ ih =>
    obtain ⟨B, o, hB⟩ := ih
    exact ⟨fun a => A a ∨ B a, .cons ow o (fun a ha hb => let ⟨A', h1, h2⟩ := hB a hb; d A' h1 a ha h2) fun a => Iff.rfl, fun a z => z.elim (fun z => ⟨A, List.mem_cons_self .., z⟩) fun z => let ⟨A, h1, h2⟩ := hB a z; ⟨A, List.mem_cons_of_mem _ h1, h2⟩⟩
  | @ct _ _ _ _ _ _ _ A As ow _ _ d _ ih =>
    obtain ⟨B, o, hB⟩ := ih
    exact ⟨fun a => A a ∨ B a, .cons ow o (fun a ha hb => let ⟨A', h1, h2⟩ := hB a hb; d A' h1 a ha h2) fun a => Iff.rfl, fun a z => z.elim (fun z => ⟨A, List.mem_cons_self .., z⟩) fun z => let ⟨A, h1, h2⟩ := hB a z; ⟨A, List.mem_cons_of_mem _ h1, h2⟩⟩
theorem Owns.get : ∀ {ts : List T} {vs : List V} {B : Addr → Prop} {k : Nat} {t : T}, Owns C G H ts vs B → ts[k]? = some t → ∃ v A, vs[k]? = some v ∧ Own C G H t v A ∧ ∀ a, A a → B a
  | _, _, _, _, _, .nil _, e => by simp at e
  | _, _, _, 0, _, .cons o _ _ hd, e => by
    simp at e; subst e
    exact ⟨_, _, rfl, o, fun a z => (hd a).mpr (.inl z)⟩
  | _, _, _, k + 1, _, .cons _ os _ hd, e => by
    obtain ⟨v, A, h1, h2, h3⟩ := Owns.get os (by simpa using e)
    exact ⟨v, A, by simpa using h1, h2, fun a z => (hd a).mpr (.inr (h3 a z))⟩
/-- a part that is one object is changed -/
theorem Owns.upd {d : D} : ∀ {ts : List T} {vs : List V} {B : Addr → Prop} {k : Nat}, Owns C G H ts vs B → ts[k]? = some (.ow d) → ∃ q o, vs[k]? = some (.ref q) ∧ H q = some o ∧ G q = none ∧ Flat C G d o ∧ B q ∧ ∀ d' o', Flat C G d' o' → Owns C G (upd H q o') (ts.set k (.ow d')) vs B
  | _, _, _, _, .nil _, e => by simp at e
  | _, _, _, 0, .cons o os hn hd, e => by
    simp at e; subst e
    cases o with
    | @ow _ q ob A h1 h2 h3 h4 =>
      refine ⟨q, ob, rfl, h1, h2, h3, (hd q).mpr (.inl ((h4 q).mpr rfl)), fun d' o' f => ?_⟩
      refine .cons (.ow upd_same h2 f h4) (Owns.mono (Same.refl G) os (fun a ha => (Owns.dom os ha).1) fun a u ha e => ?_) hn hd
      rw [upd_ne (fun z => hn q ((h4 q).mpr rfl) (by rw [← z]; exact ha))]; exact e
  | _, _, _, k + 1, .cons o os hn hd, e => by
    obtain ⟨q, ob, h1, h2, h3, h4, h5, h6⟩ := Owns.upd os (by simpa using e)
    refine ⟨q, ob, by simpa using h1, h2, h3, h4, (hd q).mpr (.inr h5), fun d' o' f => ?_⟩
    refine .cons (Own.mono (Same.refl G) o (fun a ha => (Own.dom o ha).1) fun a u ha e => ?_) (h6 d' o' f) hn hd
    rw [upd_ne (fun z => hn q (by rw [← z]; exact ha) h5)]; exact e
theorem Sst.updP {G H : Hp} {P : Nat → Addr → Prop} {r : Env} {σ : St} {i : Nat} {t t' : T} {v : V} {p : Addr} {o' : HO} (st : Sst C G H P r σ) (hi : r[i]? = some (some t)) (hv : σ[i]? = some (some v)) (hp : P i p) (f : Own C G (upd H p o') t' v (P i)) :
    Sst C G (upd H p o') P (r.set i (some t')) σ ∧ Stp G H P G (upd H p o') P := by
  obtain ⟨hG, hH⟩ := st.dom hp
  refine ⟨⟨by rw [List.length_set]; exact st.len, fun a u e => by rw [upd_ne (fun z => by rw [z, hG] at e; cases e)]; exact st.gh a u e, fun j t hj => ?_, fun j a hj => ?_, st.dj⟩, Same.refl _, fun a u e n => by rw [upd_ne (fun z => n i (by rw [z]; exact hp))]; exact e, fun a e => ?_, fun j a h => .inl ⟨j, h⟩, fun a h n => (n h).elim⟩
  · rcases getSet hj with ⟨rfl, ht, _⟩ | ⟨hne, hj⟩
    · cases ht
      exact ⟨v, hv, f⟩
    · obtain ⟨v, h1, h2⟩ := st.sl j t hj
      refine ⟨v, h1, Own.mono (Same.refl G) h2 (fun a h => (Own.dom h2 h).1) fun a u ha e => ?_⟩
      rw [upd_ne (fun z => hne (st.dj _ _ _ hp (by rw [← z]; exact ha)))]; exact e
  · obtain ⟨t, ht⟩ := st.pe j a hj
    by_cases hji : i = j
    · subst hji
      exact ⟨_, List.getElem?_set_self (ltOf hi)⟩
    · exact ⟨t, by rw [List.getElem?_set_ne hji]; exact ht⟩
  · by_cases ha : a = p
    · rw [ha, upd_same] at e; cases e
    · rw [upd_ne ha] at e; exact e
end
section
variable {X : Cx} {C : Ct} {a b e tg : Expr} {es : List Expr} {ea eb ee : E} {as : Ar} {io : List Bool} {p pos apos cpos : Pos}
theorem ge_tupo {k : Nat} (hs : PA X es (tAr C io as)) : PE X (.Tuple es k pos) (tE C (.tupo as)) := by
  refine PE.imp (pe_tup hs) fun σ H Q ⟨G, P, r, y, r', st, e, k⟩ => ?_
  simp only [ev] at e
  split at e
  · rename_i ts r1 h1
    split at e
    · rename_i hl
      cases e
      refine ⟨G, P, r, ts, _, st, h1, fun _ _ => trivial, fun vs G1 H1 P1 As st1 s1 ok p1 => ⟨by rw [ok.len.2.1]; exact hl, fun p hp => ?_⟩⟩
      obtain ⟨B, o, hB⟩ := ok.owns
      have base := ok.base
      have g : Grow G1 H1 G1 (upd H1 p (.tup vs)) := Grow.nu st1.gh hp
      have hb : ∀ a, B a → ((∃ j, P j a) ∨ H a = none) ∧ ∀ j, ¬ P1 j a := fun a z => by
        obtain ⟨A, q1, q2⟩ := hB a z
        exact ⟨(base A q1 a q2).1, (base A q1 a q2).2.2.2⟩
      refine k (.ref p) G1 (upd H1 p (.tup vs)) P1 (fun a => a = p ∨ B a) (st1.grow g) (s1.trans (Stp.grow g)) ⟨.nt upd_same (Same.no st1.gh hp) (Owns.mono (Same.refl _) o (fun a ha => (Owns.dom o ha).1) fun a u ha e => g.hh a u e) (fun z => (Owns.dom o z).2 hp) (fun a => Iff.rfl), fun i a ha hi => ?_⟩ (fun a ha => ?_) (fun h => by cases h)
      · rcases ha with rfl | ha
        · exact (st1.dom hi).2 hp
        · exact (hb a ha).2 i hi
      · rcases ha with rfl | ha
        · exact .inr (s1.ld _ hp)
        · exact (hb a ha).1
    · cases e
  · cases e
theorem Res.brw {G H : Hp} {P : Nat → Addr → Prop} {i : Nat} {t : T} {v : V} {B : Addr → Prop} (o : Own C G H t v B) (h : ∀ a, B a → P i a) : Res C G H P (brw i t) v (fun _ => False) := by
  have gen : (∀ d, t ≠ .fr d) → Res C G H P (FJ.brw i t) v (fun _ => False) := fun hn => by
    have : FJ.brw i t = .b i t := by cases t <;> first | rfl | exact (hn _ rfl).elim
    rw [this]
    exact ⟨fun _ z => z, B, o, h⟩
  cases t with
  | fr d =>
    cases o with
    | fr rp _ => exact Res.fr rp
  | _ => exact gen fun d z => by cases z
theorem ge_sub {k : Nat} {u : Nat} {kp : Pos} (hK : X.K = C.K) (hw : X.w = C.w) (hu : X.A.units + 64 < cLine) (ha : PE X a (tE C ea)) : PE X (.Subscript a (.Constant (.int (Int.ofNat k)) u kp) pos) (tE C (.sub ea k)) := by
  have hb : PE X (.Constant (.int (Int.ofNat k)) u kp) (tE C (.cst (.int (Int.ofNat k)))) := ge_cst pe_int fun _ _ _ _ _ _ => .int
  have hb2 : PE X (.Constant (.int (Int.ofNat k)) u kp) (tC (.int (Int.ofNat k))) := pe_int
  refine PE.imp (FJ.PE.or' (ge_idx hK hw hu ha hb rfl) (pe_ix ix_tup ha hb2 (plainIx rfl))) fun σ H Q ⟨G, P, r, y, r', st, e, kk⟩ => ?_
  simp only [ev] at e
  cases hs : subO (ev ea r) k with
  | none =>
    rw [hs] at e
    refine .inl ⟨G, P, r, y, r', st, ?_, ?_⟩
    · simp only [ev]; exact e
    · have : (E.idx ea (.cst (.int (Int.ofNat k)))).pu = (E.sub ea k).pu := by simp [E.pu]
      rw [this]; exact kk
  | some q =>
    rw [hs] at e
    have e' : q = .ok y r' := e
    subst e'
    unfold subO at hs
    split at hs
    · rename_i i ts r1 h1
      split at hs
      · rename_i t ht
        cases hs
        refine .inr (tE_at st h1 fun v1 G1 H1 P1 A st1 s1 res hA p1 => ?_)
        obtain ⟨_, B, o, hB⟩ := res
        cases o with
        | @nt _ p vs _ B' h1 h2 os hn hd =>
          obtain ⟨w, A', q1, q2, q3⟩ := Owns.get os ht
          refine ⟨p, vs, (k : Int), w, rfl, rfl, SqT.of h1, ?_, ?_⟩
          · unfold atI ixN
            have hk : k < vs.length := ltOf q1
            rw [if_pos (by omega), if_pos (by omega)]
            simpa using q1
          · exact kk w G1 H1 P1 _ st1 s1 (Res.brw q2 fun a z => hB a ((hd a).mpr (.inr (q3 a z)))) (fun _ z => z.elim) (fun h => p1 (by simpa [E.pu] using h))
      · cases hs
    · cases hs
theorem gs_appP {i k : Nat} {x : Str} {np spos kp : Pos} {u : Nat} (hN : X.N[i]? = some x) (hv : Vis X.env.scope x) (hd : (x == ("__debug__" : Str)) = false) (hcd : (x == ("__classdict__" : Str)) = false) (hl : (apos.endLine == cpos.line) = true) (hn : notStar e = true) (he : PE X e (tE C ee)) :
    PS X (.Expr (.Call (.Attribute (.Subscript (.Name x np) (.Constant (.int (Int.ofNat k)) u kp) spos) "append" apos) [e] [] cpos) pos) (tS C (.appP i k ee)) := by
  have hb2 : PE X (.Constant (.int (Int.ofNat k)) u kp) (tC (.int (Int.ofNat k))) := pe_int
  refine PS.imp (ps_expr (pe_bm PySem.F.plainAttrs_list PySem.F.slot_list_append PySem.F.type_list_append mt_append (pe_ix ix_tup (pe_var hN hv hd hcd) hb2 (plainIx rfl)) (pa_cons he pa_nil (star_cons hn)) rfl (few1 hn) hl (star_cons hn) rfl)) fun D σ H ⟨G, P, r, st, kk⟩ => ?_
  simp only [evS] at kk
  split at kk
  case isFalse => exact kk.elim
  rename_i hpu
  split at kk
  · rename_i ts0 h0
    split at kk
    · rename_i ds0 hd0
      split at kk
      · rename_i x r1 h1
        split at kk
        · rename_i ts h2
          split at kk
          · rename_i ds h3
            split at kk
            · rename_i hz
              obtain ⟨v0, e0, o0⟩ := st.sl i _ h0
              cases o0 with
              | @nt _ p vs _ B hp hg os hnB hdB =>
                obtain ⟨q, ob, q1, q2, q3, q4, q5, _⟩ := Owns.upd os hd0
                refine ⟨.ref p, e0, p, vs, (k : Int), .ref q, rfl, rfl, SqT.of hp, ?_, ?_, tE_settle st h1 fun w G1 P1 H1 st1 s1 rp1 pu1 => ?_⟩
                · unfold atI ixN
                  have hk : k < vs.length := ltOf q1
                  rw [if_pos (by omega), if_pos (by omega)]
                  simpa using q1
                · cases q4 with
                  | lst rs => exact .inl ⟨rfl, _, SqL.of q2⟩
                · obtain ⟨v1, e1, o1⟩ := st1.sl i _ h2
                  rw [e0] at e1
                  cases e1
                  cases o1 with
                  | @nt _ _ vs1 _ B1 hp1 hg1 os1 hnB1 hdB1 =>
                    obtain ⟨qq, ob1, w1, w2, w3, w4, w5, w6⟩ := Owns.upd os1 h3
                    have ev1 := pu1 hpu p _ hp
                    rw [hp1] at ev1
                    cases ev1
                    rw [q1] at w1
                    cases w1
                    cases w4 with
                    | @lst _ ws rs =>
                      have hPq : P1 i q := (hdB1 q).mpr (.inr w5)
                      have hpq : p ≠ q := fun z => hnB1 (by rw [z]; exact w5)
                      have o' : Own C G1 (upd H1 q (.lst (ws ++ [w]))) (.nt (ts.set k (.ow (.lst (ds ++ [x.toD]))))) (.ref p) (P1 i) :=
                        .nt (by rw [upd_ne hpq]; exact hp1) hg1 (w6 _ _ (.lst (Reps.app rs (Reps.one rp1)))) hnB1 hdB1
                      obtain ⟨st2, s2⟩ := st1.updP h2 e0 hPq o'
                      exact ⟨q, _, w, rfl, rfl, w2, by rw [← Reps.length rs]; exact hz, kk σ G1 _ P1 st2 (s1.trans s2) Fr.refl⟩
            · exact kk.elim
          · exact kk.elim
        · exact kk.elim
      · exact kk.elim
    · exact kk.elim
  · exact kk.elim
theorem gs_clrP {i k : Nat} {x : Str} {np spos kp : Pos} {u : Nat} (hN : X.N[i]? = some x) (hv : Vis X.env.scope x) (hd : (x == ("__debug__" : Str)) = false) (hcd : (x == ("__classdict__" : Str)) = false) (hl : (apos.endLine == cpos.line) = true) :
    PS X (.Expr (.Call (.Attribute (.Subscript (.Name x np) (.Constant (.int (Int.ofNat k)) u kp) spos) "clear" apos) [] [] cpos) pos) (tS C (.clrP i k)) := by
  have hb2 : PE X (.Constant (.int (Int.ofNat k)) u kp) (tC (.int (Int.ofNat k))) := pe_int
  refine PS.imp (ps_expr (pe_bm0 PySem.F.plainAttrs_list PySem.F.slot_list_clear PySem.F.type_list_clear mt_clear (pe_ix ix_tup (pe_var hN hv hd hcd) hb2 (plainIx rfl)) rfl hl)) fun D σ H ⟨G, P, r, st, kk⟩ => ?_
  simp only [evS] at kk
  split at kk
  · rename_i ts h0
    split at kk
    · rename_i ds hd0
      obtain ⟨v0, e0, o0⟩ := st.sl i _ h0
      cases o0 with
      | @nt _ p vs _ B hp hg os hnB hdB =>
        obtain ⟨q, ob, q1, q2, q3, q4, q5, q6⟩ := Owns.upd os hd0
        refine ⟨.ref p, e0, p, vs, (k : Int), .ref q, rfl, rfl, SqT.of hp, ?_, ?_, ?_⟩
        · unfold atI ixN
          have hk : k < vs.length := ltOf q1
          rw [if_pos (by omega), if_pos (by omega)]
          simpa using q1
        · cases q4 with
          | lst rs => exact .inl ⟨rfl, _, SqL.of q2⟩
        · cases q4 with
          | @lst _ ws rs =>
            have hPq : P i q := (hdB q).mpr (.inr q5)
            have hpq : p ≠ q := fun z => hnB (by rw [z]; exact q5)
            have o' : Own C G (upd H q (.lst [])) (.nt (ts.set k (.ow (.lst [])))) (.ref p) (P i) :=
              .nt (by rw [upd_ne hpq]; exact hp) hg (q6 _ _ (.lst .nil)) hnB hdB
            obtain ⟨st2, s2⟩ := st.updP h0 e0 hPq o'
            exact ⟨q, _, rfl, rfl, q2, kk σ G _ P st2 s2 Fr.refl⟩
    · exact kk.elim
  · exact kk.elim
theorem gs_appT {k j : Nat} {spos kp p2 : Pos} {u u2 : Nat} (hl : (apos.endLine == cpos.line) = true) (hb : attributeBase (.Subscript e (.Constant (.int (Int.ofNat k)) u kp) spos) "append" X.env (eval (.Subscript e (.Constant (.int (Int.ofNat k)) u kp) spos) X.env) = eval (.Subscript e (.Constant (.int (Int.ofNat k)) u kp) spos) X.env) (he : PE X e (tE C ee)) :
    PS X (.Expr (.Call (.Attribute (.Subscript e (.Constant (.int (Int.ofNat k)) u kp) spos) "append" apos) [.Constant (.int (Int.ofNat j)) u2 p2] [] cpos) pos) (tS C (.appT ee k (.int (Int.ofNat j)))) := by
  have hb2 : PE X (.Constant (.int (Int.ofNat k)) u kp) (tC (.int (Int.ofNat k))) := pe_int
  have hb3 : PE X (.Constant (.int (Int.ofNat j)) u2 p2) (tC (.int (Int.ofNat j))) := pe_int
  refine PS.imp (ps_expr (pe_bm PySem.F.plainAttrs_list PySem.F.slot_list_append PySem.F.type_list_append mt_append (pe_ix ix_tup he hb2 (plainIx rfl)) (pa_cons hb3 pa_nil rfl) hb rfl hl rfl rfl)) fun D σ H ⟨G, P, r, st, kk⟩ => ?_
  simp only [evS] at kk
  split at kk
  · rename_i ts r1 h1
    split at kk
    · rename_i ds hd0
      split at kk
      · rename_i hz
        refine tE_at st h1 fun v1 G1 H1 P1 A st1 s1 res hA p1 => ?_
        obtain ⟨o0, dis⟩ := res
        cases o0 with
        | @nt _ p vs _ B hp hg os hnB hdB =>
          obtain ⟨q, ob, q1, q2, q3, q4, q5, q6⟩ := Owns.upd os hd0
          refine ⟨p, vs, (k : Int), .ref q, rfl, rfl, SqT.of hp, ?_, ?_, ?_⟩
          · unfold atI ixN
            have hk : k < vs.length := ltOf q1
            rw [if_pos (by omega), if_pos (by omega)]
            simpa using q1
          · cases q4 with
            | lst rs => exact .inl ⟨rfl, _, SqL.of q2⟩
          · cases q4 with
            | @lst _ ws rs =>
              have hAq : A q := (hdB q).mpr (.inr q5)
              have ne : ∀ i a, P1 i a → a ≠ q := fun i a h z => dis i q hAq (by rw [← z]; exact h)
              have st2 : Sst C G1 (upd H1 q (.lst (ws ++ [.int (Int.ofNat j)]))) P1 r1 σ := ⟨st1.len, fun a o h => by
                have : a ≠ q := fun z => by rw [z, q3] at h; cases h
                rw [upd_ne this]; exact st1.gh a o h, fun i t h => by
                obtain ⟨v, g1, g2⟩ := st1.sl i t h
                exact ⟨v, g1, Own.mono (Same.refl G1) g2 (fun a h => (Own.dom g2 h).1) fun a u hPa e => by rw [upd_ne (ne i a hPa)]; exact e⟩, st1.pe, st1.dj⟩
              have s2 : Stp G H P G1 (upd H1 q (.lst (ws ++ [.int (Int.ofNat j)]))) P1 := ⟨s1.gg, fun a o h n => by
                have : a ≠ q := fun z => by
                  rcases hA q hAq with ⟨j, hj⟩ | hj
                  · exact n j (by rw [z]; exact hj)
                  · rw [z, hj] at h; cases h
                rw [upd_ne this]; exact s1.kp a o h n, fun a h => by
                by_cases z : a = q
                · subst z; rw [upd_same] at h; cases h
                · rw [upd_ne z] at h; exact s1.ld a h, s1.pp, s1.gn⟩
              exact ⟨q, _, _, rfl, rfl, q2, by rw [← Reps.length rs]; exact hz, kk σ G1 _ P1 st2 s2 Fr.refl⟩
      · exact kk.elim
    · exact kk.elim
  · exact kk.elim
/-! ### what is read is lent -/
theorem Sst.later {G H H' : Hp} {P : Nat → Addr → Prop} {r : FJ.Env} {σ : St} (st : Sst C G H P r σ) (s : Same H H') : Sst C G H' P r σ ∧ Stp G H P G H' P :=
  ⟨⟨st.len, st.gh.trans s, fun i t e => by
    obtain ⟨v, h1, h2⟩ := st.sl i t e
    exact ⟨v, h1, Own.mono (Same.refl G) h2 (fun a h => (Own.dom h2 h).1) fun a u _ e => s a u e⟩, st.pe, st.dj⟩, Same.refl _, fun a u e _ => s a u e, fun a e => Same.no s e, fun j a h => .inl ⟨j, h⟩, fun a h n => (n h).elim⟩
theorem Res.atom {G H : Hp} {P : Nat → Addr → Prop} {x : Val} {v : V} {A : Addr → Prop} {G' : Hp} (h : atomD x.toD = true) (res : Res C G H P x v A) : Rep C G' x.toD v := by
  have gen : ∀ {t : T} {B : Addr → Prop}, atomD t.toD = true → Own C G H t v B → Rep C G' t.toD v := by
    intro t B ht o
    cases o with
    | fr rp _ => cases rp <;> first | (cases ht; done) | constructor
    | ow _ _ f _ => cases f <;> cases ht
    | nl _ _ _ _ _ => cases ht
    | nt _ _ _ _ _ => cases ht
    | nd _ _ _ _ _ _ => cases ht
    | no _ _ _ _ _ => cases ht
  cases x with
  | v t => exact gen h res.1
  | b i t =>
    obtain ⟨_, B, o, _⟩ := res
    exact gen h o
theorem ge_lend (ha : PE X a (tE C ea)) : PE X a (tE C (.lend ea)) := by
  refine PE.imp ha fun σ H Q ⟨G, P, r, y, r', st, e, k⟩ => ?_
  simp only [ev] at e
  split at e
  · rename_i x r1 h1
    split at e
    · rename_i hc
      cases e
      simp only [Bool.and_eq_true] at hc
      refine tE_at st h1 fun v1 G1 H1 P1 A st1 s1 res hA p1 => ?_
      obtain ⟨st2, s2⟩ := st.later (p1 hc.1)
      exact k v1 G H1 P _ st2 s2 (Res.fr (Res.atom hc.2 res)) (fun _ z => z.elim) fun _ => p1 hc.1
    · cases e
  · cases e
theorem gt_lend (ha : PT X a (tT C ea)) : PT X a (tT C (.lend ea)) := by
  refine PT.imp ha fun σ H Q ⟨G, P, r, b, r', st, e, k⟩ => ?_
  obtain ⟨x, r1, h1, h2, rfl⟩ := R.tru_ok e
  simp only [ev] at h1
  split at h1
  · rename_i y r2 h3
    split at h1
    · rename_i hc
      cases h1
      simp only [Bool.and_eq_true] at hc
      have h2' : truD y.toD = some b := by simpa [Val.toD, T.toD] using h2
      refine ⟨G, P, r, b, _, st, by rw [h3]; exact R.tru_of h2', fun G1 H1 P1 st1 s1 p1 => ?_⟩
      obtain ⟨st2, s2⟩ := st.later (p1 hc.1)
      exact k G H1 P st2 s2 fun _ => p1 hc.1
    · cases h1
  · cases h1
/-! ### try, raise -/
theorem tS_seq {sa sb : S} {D : Ends} {σ : St} {H : Hp} (h : tS C (.tryE sa sb) D σ H) : tS C sa { D with nx := tS C sb D } σ H := by
  obtain ⟨G, P, r, st, k⟩ := h
  refine tS_seq0 ⟨G, P, r, st, ?_⟩
  simp only [evS, S.asgs] at k ⊢
  exact k
theorem gs_try {body orelse : List Stmt} {h₀ : ExceptHandler} {hs : List ExceptHandler} {sa sb : S} (hb : PSs X.nox body (tS C sa)) (ho : PSs X orelse (tS C sb)) : PS X (.Try body (h₀ :: hs) orelse [] pos) (tS C (.tryE sa sb)) :=
  PS.imp (ps_try_thru hb ho) fun D σ H q => tS_seq q
theorem gs_raise {st : Stmt} : PS X st (tS C .raise) := PS.imp ps_never fun D σ H ⟨G, P, r, _, k⟩ => by
  simp only [evS] at k
  exact k.elim
/-! ### a written dict walked -/
def Itkd (ks : List Str) (vs : List V) : L2.It :=
  ⟨fun i _ => i < ks.length, fun i H x H' => ∃ T k v, ks[i]? = some k ∧ vs[i]? = some v ∧ x = .ref T ∧ H T = none ∧ H' = upd H T (.tup [.str k, v]), fun i _ => ks.length ≤ i⟩
theorem kpairs_of {P : Program} {w : World} : ∀ {es : List DictEntry} {ks : List Str} {vs : List V}, KPairs es ks vs → ∃ kvs : List (Str × Value), Pairs (strKind P w) es kvs ∧ kvs.map (·.1) = ks ∧ vs.length = ks.length ∧ ∀ (i : Nat) (k : Str) (u : Value), kvs[i]? = some (k, u) → ks[i]? = some k ∧ ∃ v, vs[i]? = some v ∧ RelV v u
  | _, _, _, .nil => ⟨[], .nil, rfl, rfl, fun i k u h => by simp at h⟩
  | e :: es, k :: ks, v :: vs, .cons (t := t) h1 h2 h3 => by
    obtain ⟨kvs, a1, a2, a3, a4⟩ := kpairs_of (P := P) (w := w) h3
    refine ⟨(k, e.val) :: kvs, .cons (by rw [h1]; exact strKind_is P w k t) rfl a1, by simp [a2], by simp [a3], fun i q u hh => ?_⟩
    cases i with
    | zero => simp at hh; obtain ⟨rfl, rfl⟩ := hh; exact ⟨rfl, v, rfl, h2⟩
    | succ i => simpa using a4 i q u (by simpa using hh)
theorem kits_at {P : Program} {w : World} {K : PySem.W.Frag} {h : Heap} {p : Addr} {ks : List Str} {vs : List V} (X : K.In h) (kk : KIts K w p ks vs) : ∃ (n : Nat) (kvs : List (Str × Value)), h.DictAt (strKind P w) p kvs n ∧ kvs.length = ks.length ∧ vs.length = ks.length ∧ ∀ (i : Nat) (k : Str) (u : Value), kvs[i]? = some (k, u) → ks[i]? = some k ∧ ∃ v, vs[i]? = some v ∧ RelV v u := by
  obtain ⟨es, n, D, nd, kp⟩ := kk
  obtain ⟨kvs, a1, a2, a3, a4⟩ := kpairs_of (P := P) (w := w) kp
  have hl : kvs.length = ks.length := by rw [← a2, List.length_map]
  refine ⟨n, kvs, ⟨_, es, X _ _ D.at_, ⟨rfl, rfl, rfl⟩, rfl, fun e he => ?_, a1, by rw [a2]; exact nd⟩, hl, a3, a4⟩
  obtain ⟨x, t, e1, e2⟩ := D.lit.all e (Array.mem_toList_iff.mpr he)
  exact ⟨x, by rw [e1]; exact strKind_is P w x t, e2⟩
theorem turn_kd {P : Program} {w : World} {K : PySem.W.Frag} {elts : List Expr} {kk : Nat} {tpos : Pos} {d : Addr} {ks : List Str} {vs : List V} {n m : Nat} (it : Addr) (hd : KIts K w d ks vs) (hn : ∀ h, K.In h → ∃ kvs : List (Str × Value), h.DictAt (strKind P w) d kvs n ∧ kvs.length = ks.length ∧ vs.length = ks.length ∧ ∀ (i : Nat) (k : Str) (u : Value), kvs[i]? = some (k, u) → ks[i]? = some k ∧ ∃ v, vs[i]? = some v ∧ RelV v u) (hm : m = ks.length) :
    Turn P w K (.Tuple elts kk tpos) (Itkd ks vs) [it] it (fun i h => ∃ ok ov, IsItemIter h it d i m n ok ov) where
  mem := by simp
  obj := fun i h st b hb => by
    have e : b = it := by simpa using hb
    subst e
    obtain ⟨ok, ov, e⟩ := st
    exact ⟨_, e, fun v z => nomatch z⟩
  keep := fun i h h' st k => let ⟨ok, ov, e⟩ := st; ⟨ok, ov, k it (by simp) _ e⟩
  item := by
    intro X hP hw hK hc i pins s σ H E I hf st hi
    subst hP hw hK
    have hi' : i < ks.length := hi
    obtain ⟨kvs, hat, hl, hv, hg⟩ := hn _ I.kIn
    obtain ⟨⟨k, u⟩, hku⟩ : ∃ q, kvs[i]? = some q := ⟨kvs[i], List.getElem?_eq_getElem (by omega)⟩
    obtain ⟨hk, v, hvv, ru⟩ := hg i k u hku
    obtain ⟨ok, ov, he⟩ := st
    have em : m = kvs.length := by omega
    subst em
    have hlt : it < s.heap.objs.size := Heap.lt_size he
    refine wpAny_pyNext_items_item he hat hku fun key h' hkey ho hT hz hkp => ?_
    refine ⟨_, rfl, wpAny_letOwnedTupleGo_items (s := { s with heap := h' }) ho fun h'' he' sb => ?_⟩
    have hT2 : h''.get? s.heap.objs.size = some { cls := .type "tuple", data := .seq #[key, u] } := (sb.2 _ (Nat.ne_of_gt hlt)).trans hT
    have rk : RelV (.str k) key := by
      cases key with
      | str x t =>
        have := (strKind X.prog X.w).inj _ _ _ hkey (strKind_is X.prog X.w x t)
        subst this
        exact ⟨t, rfl⟩
      | _ => cases hkey
    have new : ObjOk X.prog X.w (upd H s.heap.objs.size (.tup [.str k, v])) h'' s.heap.objs.size (.tup [.str k, v]) :=
      ⟨by show 2 ≤ sizeLine; decide, [key, u], .cons rk (.cons ru .nil), ⟨_, hT2, rfl, _, rfl⟩⟩
    have I1 : Inv X pins σ (upd H s.heap.objs.size (.tup [.str k, v])) { s with heap := h'' } :=
      I.turnedNew (t' := s.toks) (ch := [it]) (fun b ob hb e => (sb.2 b (by simpa using hb)).trans (hkp b ob (by simpa using hb) e)) hf (Nat.le_refl _) new
    refine ⟨.ref s.heap.objs.size, _, I1, rfl, ⟨_, k, v, hk, hvv, rfl, I.hok.fresh (Nat.le_refl _), rfl⟩, ⟨key, u, he'⟩, fun b hb => ?_⟩
    have e : b = it := by simpa using hb
    rw [e, upd_ne (Nat.ne_of_lt hlt)]
    exact (hf it (by simp)).1
  done := by
    intro X hP hw hK hc i pins s σ H E I hf st hi
    subst hP hw hK
    have hi' : ks.length ≤ i := hi
    obtain ⟨f0, f1, f2, f3, f4, f5⟩ := hf it (by simp)
    obtain ⟨kvs, hat, hl, hv, hg⟩ := hn _ I.kIn
    obtain ⟨ok, ov, he⟩ := st
    have em : m = kvs.length := by omega
    subst em
    exact wpAny_pyNext_items_end (I.ok.hd hc) he hat (List.getElem?_eq_none (by omega)) fun h' eb => ⟨rfl, I.turned (t' := s.toks) (fun b ob hb e => eb b ob hb e) f0 f1 f3 f4 f5⟩
  self := fun A i s Q E st h => let ⟨_, _, e⟩ := st; PySem.W.kcp_self e h
def iKdItems (C : Ct) (td : TE) : TI := fun σ H R => td σ H fun x H1 => ∃ d ks vs, x = .ref d ∧ KIts C.K C.w d ks vs ∧ R (Itkd ks vs) H1
theorem pi_kditems {elts : List Expr} {kk : Nat} {tpos : Pos} {td : TE} (hK : X.K = C.K) (hw : X.w = C.w) (he : PE X e td) (hbase : attributeBase e "items" X.env (eval e X.env) = eval e X.env) (hline : (apos.endLine == cpos.line) = true) :
    PI X (.Tuple elts kk tpos) (.Call (.Attribute e "items" apos) [] [] cpos) (iKdItems C td) := by
  refine ⟨fun pins s σ H R I h => ?_⟩
  refine wpAny_Call_method (T := "dict") (id := "dict.items") hbase rfl hline F.plainAttrs_dict F.slot_dict_items F.type_dict_items (thn (he.run pins s σ H _ I h) fun u s1 ⟨x, H1, I1, rx, d, ks, vs, ex, hd, q⟩ => ?_)
  subst ex
  obtain rfl : u = Value.ref d := rx
  rw [← hK, ← hw] at hd
  obtain ⟨es, n, D, nd, kp⟩ := id hd
  have hn : ∀ h, X.K.In h → ∃ kvs : List (Str × Value), h.DictAt (strKind X.prog X.w) d kvs n ∧ kvs.length = ks.length ∧ vs.length = ks.length ∧ ∀ (i : Nat) (k : Str) (u : Value), kvs[i]? = some (k, u) → ks[i]? = some k ∧ ∃ v, vs[i]? = some v ∧ RelV v u := fun h hin => by
    obtain ⟨n', kvs, a1, a2⟩ := kits_at (P := X.prog) hin ⟨es, n, D, nd, kp⟩
    obtain ⟨o, es', b1, b2, b3, b4⟩ := a1
    have := hin _ _ D.at_
    rw [this] at b1
    cases b1
    cases b3
    exact ⟨kvs, ⟨_, _, this, b2, rfl, b4⟩, a2⟩
  obtain ⟨kvs, hat, hl, _⟩ := hn _ I1.kIn
  refine ⟨hat.dictOf.typeIs, hat.dictOf.mapOf.noDict, ?_⟩
  have I2 : Inv X pins σ H1 { s1 with heap := s1.heap.push { cls := .type "dict_items", data := .fields #[.ref d] } } := I1.kept (t' := s1.toks) fun b ob q => Heap.get?_push_of_some _ q
  have fin : wpAny (model X.prog X.w) X.A (pyIter (.ref s1.heap.objs.size)) (PIE X pins σ (.Tuple elts kk tpos) R) X.xe { s1 with heap := s1.heap.push { cls := .type "dict_items", data := .fields #[.ref d] } } := by
    refine wpAny_pyIter_items (d := d) (knd := strKind X.prog X.w) ⟨_, Heap.get?_push_size _ rfl, rfl, rfl⟩ (hat.push _) (pi_one (tk := s1.toks) I2 _ (turn_kd _ hd hn hl) ⟨.none, .none, ?_⟩ q)
    exact Heap.get?_push_size _ rfl
  show wpAny _ _ (callWith cpos (.builtin "dict.items") [.ref d] [] []) _ X.xe s1
  exact method_meetsIn F.slot_dict_items F.entry_dict_items rfl (PySem.evalArgs_none ⟨rfl, hat.dictOf.typeIs, F.args_dict_items_1 _, _, meets_dict_items (strKind X.prog X.w) d D.low, ⟨kvs, hat.dictOf⟩, fin⟩)
theorem itmsD_len : ∀ {ks : List Str} {ds : List D}, ds.length = ks.length → (itmsD ks ds).length = ks.length
  | [], [], _ => rfl
  | k :: ks, d :: ds, h => by simp [itmsD, itmsD_len (ks := ks) (ds := ds) (by simpa using h)]
  | [], _ :: _, h => by simp at h
  | _ :: _, [], h => by simp at h
theorem itmsD_get : ∀ {ks : List Str} {ds : List D} {i : Nat} {k : Str} {d : D}, ks[i]? = some k → ds[i]? = some d → (itmsD ks ds)[i]? = some (.tup [.str k, d])
  | [], _, _, _, _, h, _ => by simp at h
  | _ :: _, [], _, _, _, _, h => by simp at h
  | _ :: _, _ :: _, 0, _, _, h1, h2 => by simp at h1 h2; subst h1; subst h2; rfl
  | _ :: ks, _ :: ds, i + 1, _, _, h1, h2 => by
    simp only [itmsD, List.getElem?_cons_succ]
    exact itmsD_get (by simpa using h1) (by simpa using h2)
theorem wk_items {G : Hp} {ks : List Str} {ds : List D} {vs : List V} (rs : Reps C G ds vs) (hl : vs.length = ks.length) : Wk C (Itkd ks vs) (itmsD ks ds) (fun _ => True) G := by
  have l := Reps.length rs
  have hn : (itmsD ks ds).length = ks.length := itmsD_len (by omega)
  refine ⟨YPair (fun i => ks[i]?.map V.str) (fun i => vs[i]?), ⟨fun i H hi _ => by rw [hn] at hi; exact hi, fun H _ => by rw [hn]; exact Nat.le_refl _, fun i H x H' hi _ y => ?_⟩, ?_⟩
  · obtain ⟨T, k, v, h1, h2, h3, h4, h5⟩ := y
    exact ⟨T, .str k, v, h3, h4, h5, by simp [h1], h2⟩
  · rintro i H x H' hi ⟨t, y, z, e1, e2, e3, e4, e5⟩ G2 s1 s2
    simp only at e4 e5
    cases hk : ks[i]? with
    | none => rw [hk] at e4; cases e4
    | some k =>
      rw [hk] at e4
      cases e4
      obtain ⟨d, h1, h2⟩ := Reps.getV rs e5
      obtain ⟨G', g, rp⟩ := pair_item (C := C) s2 (.str (s := k)) (Rep.mono s1 h2) e1 e2 e3
      exact ⟨_, G', itmsD_get hk h1, g, rp⟩
theorem gi_itm {elts : List Expr} {kk : Nat} {tpos : Pos} (hK : X.K = C.K) (hw : X.w = C.w) (hb : baseOk e = true) (hl : (apos.endLine == cpos.line) = true) (he : PE X e (tE C ee)) : PI X (.Tuple elts kk tpos) (.Call (.Attribute e "items" apos) [] [] cpos) (tI C (.itm ee)) := by
  refine PI.imp (pi_kditems hK hw he (base_ok hb) hl) fun σ H R ⟨G, P, r, ds, hid, r', st, e, k⟩ => ?_
  simp only [evi] at e
  split at e
  · rename_i x r1 h1
    split at e
    · rename_i ks ds2 ms hx
      cases e
      refine tE_settle st h1 fun v1 G1 P1 H1 st1 s1 rp p1 => ?_
      rw [hx] at rp
      cases rp with
      | @tab p _ _ vs _ z low g1 g2 rs =>
        have hl : vs.length = ks.length := by
          obtain ⟨es, n, _, _, kp⟩ := id z
          exact (kpairs_of (P := X.prog) (w := X.w) kp).choose_spec.2.2.1
        exact ⟨p, ks, vs, rfl, z, k _ G1 H1 P1 _ st1 s1 p1 (wk_items rs hl) trivial (fun _ _ _ _ _ => trivial) trivial⟩
    · cases e
  · cases e
end
end FJ

/-! What the compiler hands on is kept by the text: expressions. -/
namespace FJ
open PySem L2

def GOk (P : Program) (w : World) (K : PySem.W.Frag) (mg : Str → Option Value) (base : Heap) (C : Ct) (k : Nat) (x : Str) : GI → Prop
  | .fn f => ∃ a fd ps, mg x = some (.ref a) ∧ FnOk P w K mg base CX0 k a fd ps (spFn C f) ∧ PySem.W.keepIn K (.ref a) = true ∧ Binds K fd ps []
  | .con d => ∃ u v, mg x = some u ∧ RelV v u ∧ ∀ G, Rep C G d v
  | .blt => mg x = none
  | .cls c fo so => (∀ f, fo = some f → NOk P w K mg base C k x c f) ∧ ∀ n s, so = some (n, s) → IOk K mg C x c n s
structure Good (X : Cx) (C : Ct) (c : Cc) (k : Nat) : Prop where
  hK : X.K = C.K
  hw : X.w = C.w
  hN : X.N = c.N
  nd : c.N.Nodup
  sc : X.env.scope = c.sc
  calm : X.calm = true
  cell : ∀ x, c.cellOk x = true → X.fn x = true
  room : Room k X.A
  g : ∀ x gi, c.g x = some gi → GOk X.prog X.w X.K X.mg X.base C k x gi
  fl : ∀ m q i, c.fl m q = some i → FOk X.K C q m i
  ms : ∀ m io tb, c.ms m = some (io, tb) → ∀ q f, tb q = some f → f.io = io ∧ MOk X.prog X.w X.K X.mg X.base C k q m f

theorem slotOf_ok {x : Str} : ∀ {N : List Str} {i : Nat}, slotOf x N = some i → N[i]? = some x
  | [], _, h => by cases h
  | y :: r, i, h => by
    unfold slotOf at h
    split at h
    · rename_i e; cases h; simp [e]
    · cases hs : slotOf x r with
      | none => rw [hs] at h; cases h
      | some j => rw [hs] at h; cases h; simpa using slotOf_ok hs
theorem visB_ok {sc : Scope} {x : Str} (h : visB sc x = true) : Vis sc x := by
  unfold visB at h
  split at h
  · exact .inl (by assumption)
  · exact .inr (.inl (by assumption))
  · exact .inr (.inr (by assumption))
  · cases h
section
variable {X : Cx} {C : Ct} {c : Cc} {k : Nat} {x : Str} {gi : GI}
theorem gOf_ok (G : Good X C c k) (h : gOf c x = some gi) : Gl X x ∧ (x == ("__debug__" : Str)) = false ∧ x ≠ "__name__" ∧ GOk X.prog X.w X.K X.mg X.base C k x gi := by
  unfold gOf at h
  split at h
  · rename_i hc
    simp only [Bool.and_eq_true, Bool.not_eq_true', decide_eq_true_eq] at hc
    obtain ⟨⟨h1, h2⟩, h3⟩ := hc
    refine ⟨?_, h2, h3, G.g x gi h⟩
    unfold gloB at h1
    show X.env.scope.names.lookup x = some .globalImplicit
    rw [G.sc]
    split at h1
    · assumption
    · cases h1
  · cases h
theorem loc_ok (G : Good X C c k) (h : locB c x = true) : Loc X.env.scope x ∧ (X.fn x = true ∨ X.env.scope.names.lookup x = some .local) := by
  unfold locB at h
  rw [G.sc]
  split at h
  · rename_i e; exact ⟨.inl e, .inr e⟩
  · rename_i e; exact ⟨.inr e, .inl (G.cell x h)⟩
  · cases h
/-- a comprehension's block -/
theorem Good.blk (G : Good X C c k) (s : Shared) (H : Hp) (scope : Scope) (Ca : Addr) (cl : List (Str × Addr)) (fp : List Addr) : Good (X.blk s H scope (compEnvC scope cl Ca X.env) fp) C (inner c scope) k where
  hK := G.hK
  hw := G.hw
  hN := G.hN
  nd := G.nd
  sc := by
    show relS scope X.env.scope = relS scope c.sc
    rw [G.sc]
  calm := G.calm
  cell := fun x h => by
    have : scope.names.lookup x = some .cell := by simpa [inner] using h
    show (scope.names.lookup x == some .cell) = true
    rw [this]; rfl
  room := G.room
  g := G.g
  fl := G.fl
  ms := G.ms
end

/-! ### lists of expressions -/
def PEs (X : Cx) (C : Ct) : List Expr → Es → Prop
  | [], .nil => True
  | e :: es, .cons ee ees => notStar e = true ∧ PE X e (tE C ee) ∧ PEs X C es ees
  | _, _ => False
section
variable {X : Cx} {C : Ct}
theorem PEs.all : ∀ {l : List Expr} {es : Es}, PEs X C l es → PA X l (tEs C es) ∧ PA X l (tEu C es) ∧ noStars l = true
  | [], .nil, _ => ⟨ga_nil, gu_nil, rfl⟩
  | e :: l, .cons ee es, ⟨h1, h2, h3⟩ => by
    obtain ⟨a, b, c⟩ := PEs.all h3
    refine ⟨ga_cons h1 h2 a, gu_cons h1 h2 b, ?_⟩
    simp only [noStars, List.all_cons, h1, Bool.true_and]
    exact c
  | [], .cons _ _, h => h.elim
  | _ :: _, .nil, h => h.elim
end
/-! ### dict displays -/
def tPr (C : Ct) (ks : List Key) (es : Es) : St → Hp → (List (V × V) → Hp → Prop) → Prop := fun σ H Q => ∃ G P r ds r', Sst C G H P r σ ∧ evs es r = .ok ds r' ∧ ∀ vs G' H' P', Sst C G' H' P' r' σ → Stp G H P G' H' P' → Reps C G' ds vs → (es.pu = true → Same H H') → Q ((ks.map kV).zip vs) H'
theorem key_pe {X : Cx} {e : Option Expr} {k : Key} (h : keyE e = some k) : ∃ e', e = some e' ∧ PE X e' (tC (kV k)) := by
  unfold keyE at h
  split at h
  · cases h; exact ⟨_, rfl, pe_str⟩
  · cases h; exact ⟨_, rfl, pe_int⟩
  · cases h
theorem pairs_ok {X : Cx} {C : Ct} {pos : Pos} : ∀ {ks : List (Option Expr)} {vs : List Expr} {k : List Key} {es : Es}, keysE ks = some k → PEs X C vs es → ks.length = vs.length → ks.all (·.isSome) = true ∧ k.length = ks.length ∧ ∃ trs, PPs X pos ks vs trs ∧ ∀ σ H Q, tPr C k es σ H Q → tPairs trs σ H Q
  | [], [], k, .nil, h, _, _ => by
    cases h
    refine ⟨rfl, rfl, [], pps_nil, fun σ H Q ⟨G, P, r, ds, r', st, e, q⟩ => ?_⟩
    simp only [evs] at e
    cases e
    exact q [] G H P st (Stp.refl ..) .nil fun _ => Same.refl _
  | e :: ks, v :: vs, k, .cons ee es, h, ⟨h1, h2, h3⟩, hl => by
    simp only [keysE] at h
    split at h
    · rename_i k1 kr hk1 hkr
      cases h
      obtain ⟨e', rfl, pk⟩ := key_pe (X := X) hk1
      obtain ⟨a1, a2, trs, pr, rd⟩ := pairs_ok (pos := pos) hkr h3 (by simpa using hl)
      refine ⟨by simp [a1], by simp [a2], _, pps_cons pk h2 pr, fun σ H Q ⟨G, P, r, ds, r', st, e, q⟩ => ?_⟩
      simp only [evs] at e
      split at e
      · rename_i x r1 h1
        split at e
        · rename_i ds2 r2 h2
          cases e
          exact tE_settle st h1 fun v1 G1 P1 H1 st1 s1 rp p1 => rd σ H1 _ ⟨G1, P1, _, ds2, _, st1, h2, fun vs G2 H2 P2 st2 s2 rs p2 => q (v1 :: vs) G2 H2 P2 st2 (s1.trans s2) (.cons (Rep.mono s2.gg rp) rs) fun h => (p1 (andT h).1).trans (p2 (andT h).2)⟩
        · cases e
      · cases e
    · cases h
  | [], _ :: _, _, _, _, _, hl => by simp at hl
  | _ :: _, [], _, _, _, _, hl => by simp at hl
  | [], [], _, .cons _ _, _, h, _ => h.elim
  | _ :: _, _ :: _, _, .nil, _, h, _ => h.elim
theorem putK_new {kvs : List (Key × V)} {k : Key} {v : V} (h : k ∉ kvs.map (·.1)) : putK kvs k v = kvs ++ [(k, v)] := by
  unfold putK
  rw [if_neg]
  intro z
  rw [List.any_eq_true] at z
  obtain ⟨x, h1, h2⟩ := z
  exact h (List.mem_map.mpr ⟨x, h1, of_decide_eq_true h2⟩)
theorem mergeK_new : ∀ {more kvs : List (Key × V)}, ((kvs ++ more).map (·.1)).Nodup → mergeK kvs more = kvs ++ more
  | [], kvs, _ => by simp [mergeK]
  | (k, v) :: more, kvs, h => by
    have h1 : k ∉ kvs.map (·.1) := by
      rw [List.map_append, List.map_cons] at h
      have := (List.nodup_append.mp h).2.2
      intro z
      exact this k z k (List.mem_cons_self ..) rfl
    have e : kvs ++ (k, v) :: more = (kvs ++ [(k, v)]) ++ more := by simp
    have ih := mergeK_new (more := more) (kvs := kvs ++ [(k, v)]) (by rw [← e]; exact h)
    show mergeK (putK kvs k v) more = _
    rw [putK_new h1, ih, e]
theorem zip_fst {ks : List Key} {vs : List V} (h : ks.length = vs.length) : (ks.zip vs).map (·.1) = ks := by
  rw [List.map_fst_zip]
  omega
theorem zip_kV : ∀ {ks : List Key} {vs : List V}, (ks.map kV).zip vs = (ks.zip vs).map fun kv => (kV kv.1, kv.2)
  | [], _ => rfl
  | _ :: _, [] => rfl
  | k :: ks, v :: vs => by simp [zip_kV (ks := ks) (vs := vs)]
theorem ge_dct {X : Cx} {C : Ct} {pos : Pos} {ks : List (Option Expr)} {vs : List Expr} {k : List Key} {es : Es} (hk : keysE ks = some k) (h : PEs X C vs es) (hl : ks.length = vs.length) (h0 : ks ≠ []) (h15 : ks.length ≤ 15) : PE X (.Dict ks vs pos) (tE C (.dct k es)) := by
  obtain ⟨a1, a2, trs, pr, rd⟩ := pairs_ok (pos := pos) hk h hl
  refine PE.imp (pe_disp pr a1 hl h0 h15) fun σ H Q ⟨G, P, r, y, r', st, e, q⟩ => ?_
  simp only [ev] at e
  split at e
  · rename_i ds r1 h1
    split at e
    · rename_i hc
      cases e
      obtain ⟨c1, c2, c3, c4⟩ := hc
      intro p hp
      have gr := Grow.nu (o := .dK []) st.gh hp
      refine rd σ _ _ ⟨G, P, r, ds, _, st.grow gr, h1, fun vals G1 H1 P1 st1 s1 rs p1 => ?_⟩
      obtain ⟨z1, z2, z3⟩ := s1.stays (a := p) upd_same (fun j hj => (st.dom hj).2 hp) (Same.no st.gh hp)
      have hlen : k.length = vals.length := by rw [c2, Reps.length rs]
      refine ⟨z1, k.zip vals, zip_kV, by rw [List.length_zip]; omega, ?_⟩
      have hm : mergeK [] (k.zip vals) = k.zip vals := mergeK_new (by rw [List.nil_append, zip_fst hlen]; exact c1)
      rw [hm]
      refine q (.ref p) G1 _ P1 (fun a => a = p) (st1.updD z2 z3) (((Stp.grow gr).trans s1).updN hp) ⟨.ow upd_same z2 (.dK c2 rs) fun _ => Iff.rfl, fun j a ha hj => z3 j (by rw [← ha]; exact hj)⟩ (fun a ha => .inr (by rw [ha]; exact hp)) fun hpu a u ea => ?_
      have hne : a ≠ p := ne_of_none ea hp
      rw [upd_ne hne]
      exact p1 hpu a u (by rw [upd_ne hne]; exact ea)
    · cases e
  · cases e
/-- d.update(e) -/
def rUpd : V → List V → Hp → VK → Prop := fun x vs H Q => ∃ p q kvs more, x = .ref p ∧ vs = [.ref q] ∧ p ≠ q ∧ H p = some (.dK kvs) ∧ H q = some (.dK more) ∧ kvs.length + more.length ≤ sizeLine ∧ Q .non (upd H p (.dK (mergeK kvs more)))
theorem mt_upd {X : Cx} : MtM X "dict.update" rUpd := by
  intro pins s σ H x vs v us Q I rx rv h
  obtain ⟨p, q, kvs, more, rfl, rfl, hne, h1, h2, hz, k⟩ := h
  cases rx
  obtain ⟨u, rfl, ru⟩ := rv.one
  cases ru
  obtain ⟨z1, hd1, vs1, r1, dd1⟩ := dk_of I.hok h1
  obtain ⟨z2, hd2, vs2, r2, dd2⟩ := dk_of I.hok h2
  have l1 : kvs.length = vs1.length := r1.length
  have l2 : more.length = vs2.length := r2.length
  refine call_meetsIn PySem.F.slot_dict_update dd1.typeIs PySem.F.entry_dict_update (PySem.F.args_dict_update_2 _ _) (meets_dict_update (mixKind X.prog X.w) p q hne hd2) ⟨vs1, vs2, dd1, dd2, by omega, fun h' d1 d2 hs => ?_⟩
  have he : ∃ o, h'.get? p = some o := let ⟨o, _, _, hq, _⟩ := d1; ⟨o, hq⟩
  have rm : KV (mergeK kvs more) (merged vs1 vs2) := KV.merge r2 r1
  have zm : (mergeK kvs more).length ≤ sizeLine := by
    have e1 : (mergeK kvs more).length = (merged vs1 vs2).length := rm.length
    have e2 := merged_length_le vs1 vs2
    omega
  exact ⟨.non, _, d_write (t' := s.toks) I (by rw [h1]; exact True.intro) hs he (dk_new zm hd1 rm d1), rfl, k⟩
theorem gs_updd {X : Cx} {C : Ct} {e : Expr} {ee : E} {pos : Pos} {i : Nat} {x : Str} {np apos cpos : Pos} (hN : X.N[i]? = some x) (hv : Vis X.env.scope x) (hd : (x == ("__debug__" : Str)) = false) (hcd : (x == ("__classdict__" : Str)) = false) (hl : (apos.endLine == cpos.line) = true) (hn : notStar e = true) (he : PE X e (tE C ee)) :
    PS X (.Expr (.Call (.Attribute (.Name x np) "update" apos) [e] [] cpos) pos) (tS C (.updd i ee)) := by
  refine PS.imp (ps_expr (pe_bm PySem.F.plainAttrs_dict PySem.F.slot_dict_update PySem.F.type_dict_update mt_upd (pe_var hN hv hd hcd) (pa_cons he pa_nil (star_cons hn)) rfl (few1 hn) hl (star_cons hn) rfl)) fun D σ H ⟨G, P, r, st, k⟩ => ?_
  simp only [evS] at k
  split at k
  · rename_i ks0 ds0 h0
    split at k
    · rename_i x r1 h1
      split at k
      · rename_i ks ds ls es h2 h3
        split at k
        · rename_i hc
          obtain ⟨c1, c2, c3⟩ := hc
          obtain ⟨v0, e0, o0⟩ := st.sl i _ h0
          obtain ⟨p, ob, rfl, hp, f0, _⟩ := o0.at
          refine ⟨_, e0, ?_, tE_settle st h1 fun w G1 P1 H1 st1 s1 rp1 _ => ?_⟩
          · cases f0 with
            | dK l rs => exact .inr (.inr (.inl ⟨rfl, .inl ⟨_, hp⟩⟩))
          · obtain ⟨v1, e1, o1⟩ := st1.sl i _ h2
            rw [e0] at e1
            cases e1
            obtain ⟨q, ob1, eq1, hq, f1, hA⟩ := o1.at
            cases eq1
            rw [h3] at rp1
            cases f1 with
            | @dK _ _ vs l rs =>
              cases rp1 with
              | @dK q2 _ ws _ hq2 l2 rs2 =>
                have hne : p ≠ q2 := by
                  rintro rfl
                  have := (st1.dom hA).1
                  rw [hq2] at this; cases this
                have e1 : (ks.zip vs).length = ks.length := by
                  have := Reps.length rs
                  rw [List.length_zip]; omega
                have e2 : (ls.zip ws).length = ls.length := by
                  have := Reps.length rs2
                  rw [List.length_zip]; omega
                have lv : ks.length = vs.length := by rw [c3, Reps.length rs]
                have lw : ls.length = ws.length := by rw [l2, Reps.length rs2]
                have hm : mergeK (ks.zip vs) (ls.zip ws) = (ks ++ ls).zip (vs ++ ws) := by
                  rw [mergeK_new, List.zip_append lv]
                  rw [List.map_append, zip_fst lv, zip_fst lw]; exact c2
                obtain ⟨st2, s2⟩ := st1.updO (d' := .dK (ks ++ ls) (ds ++ es)) (o' := .dK ((ks ++ ls).zip (vs ++ ws))) h2 hA (.dK (by rw [List.length_append, List.length_append]; omega) (Reps.app rs rs2))
                exact ⟨p, q2, _, _, rfl, rfl, hne, hq, st1.gh _ _ hq2, by rw [e1, e2]; exact c1, by rw [hm]; exact k σ G1 _ P1 st2 (s1.trans s2) Fr.refl⟩
        · exact k.elim
      · exact k.elim
    · exact k.elim
  · exact k.elim
theorem isTrue_if {P : Program} {w : World} {A : Around} {env : PySem.Env} {E : Value → Shared → Prop} {s : Shared} {t a b : Expr} {pos : Pos} {whole : Sem Value} {Q : Bool → Shared → Prop}
    (h : wpAny (model P w) A (isTrue t env (eval t env)) (fun c s' => if c = true then wpAny (model P w) A (isTrue a env (eval a env)) Q E s' else wpAny (model P w) A (isTrue b env (eval b env)) Q E s') E s) : wpAny (model P w) A (isTrue (.IfExp t a b pos) env whole) Q E s := by
  show wpAny (model P w) A (do if ← isTrue t env (eval t env) then isTrue a env (eval a env) else isTrue b env (eval b env)) Q E s
  refine wpAny_bind (wpAny_mono h (fun c s' q => ?_) fun _ _ x => x)
  cases c with
  | true => exact q
  | false => exact q
theorem gt_ite {X : Cx} {C : Ct} {a b c : Expr} {ea eb ec : E} {pos : Pos} (hc : PT X c (tT C ec)) (ha : PT X a (tT C ea)) (hb : PT X b (tT C eb)) : PT X (.IfExp c a b pos) (tT C (.ite ec ea eb)) := by
  refine ⟨fun pins s σ H Q I ⟨G, P, r, y, r', st, e, k⟩ => isTrue_if ?_⟩
  simp only [ev] at e
  split at e
  · rename_i r1 h1
    refine thn (hc.run pins s σ H (fun b H1 => b = true ∧ tT C ea σ H1 Q) I ⟨G, P, r, true, r1, st, h1, fun G1 H1 P1 st1 s1 p1 => ⟨rfl, G1, P1, r1, y, r', st1, e, fun G2 H2 P2 st2 s2 p2 => k G2 H2 P2 st2 (s1.trans s2) fun h => (p1 (andT h).1).trans (p2 (andT (andT h).2).1)⟩⟩) fun d s1 ⟨H1, I1, e1, q1⟩ => ?_
    rw [if_pos e1]
    exact ha.run pins s1 σ H1 Q I1 q1
  · rename_i r1 h1
    refine thn (hc.run pins s σ H (fun b H1 => b = false ∧ tT C eb σ H1 Q) I ⟨G, P, r, false, r1, st, h1, fun G1 H1 P1 st1 s1 p1 => ⟨rfl, G1, P1, r1, y, r', st1, e, fun G2 H2 P2 st2 s2 p2 => k G2 H2 P2 st2 (s1.trans s2) fun h => (p1 (andT h).1).trans (p2 (andT (andT h).2).2)⟩⟩) fun d s1 ⟨H1, I1, e1, q1⟩ => ?_
    rw [e1, if_neg (by decide)]
    exact hb.run pins s1 σ H1 Q I1 q1
  · cases e

/-! ### the induction -/
structure OkN (C : Ct) (k n : Nat) : Prop where
  e : ∀ {c : Cc} {ex : Expr} {r : E}, ce n c ex = some r → ∀ {X : Cx}, Good X C c k → PE X ex (tE C r) ∧ PT X ex (tT C r)
  and_ : ∀ {c : Cc} {a : Expr} {l : List Expr} {r : E}, cand n c a l = some r → ∀ {X : Cx}, Good X C c k → ∀ pos, PE X (.BoolOp .And (a :: l) pos) (tE C r) ∧ PW X (.BoolOp .And (a :: l) pos) (tT C r)
  or_ : ∀ {c : Cc} {a : Expr} {l : List Expr} {r : E}, cor n c a l = some r → ∀ {X : Cx}, Good X C c k → ∀ pos, PE X (.BoolOp .Or (a :: l) pos) (tE C r) ∧ PW X (.BoolOp .Or (a :: l) pos) (tT C r)
  es : ∀ {c : Cc} {l : List Expr} {r : Es}, ces n c l = some r → ∀ {X : Cx}, Good X C c k → PEs X C l r
  o : ∀ {c : Cc} {l : Option Expr} {r : Oe}, co n c l = some r → ∀ {X : Cx}, Good X C c k → PO X l (tO C r)
  ar : ∀ {c : Cc} {io : List Bool} {l : List Expr} {r : Ar}, car n c io l = some r → noStars l = true → (l = [] → r = .nil ∧ io = []) ∧ ∀ {X : Cx}, Good X C c k → PA X l (tAr C io r)
  rc : ∀ {c : Cc} {b : Bool} {ex : Expr} {f : Ar → Ar}, crc n c b ex = some f → ∀ {X : Cx}, Good X C c k → (b = false ∧ ∃ ee, f = .ci ee ∧ PE X ex (tE C ee)) ∨ (b = true ∧ ∃ ee, f = .ct ee ∧ PE X ex (tE C ee)) ∨ (b = true ∧ ∃ i, f = .cx i ∧ PE X ex (tVar i))
  it : ∀ {c : Cc} {ex : Expr} {r : FJ.It}, cit n c ex = some r → ∀ tg, (isPair r = true → isTup tg = true) → ∀ {X : Cx}, Good X C c k → PI X tg ex (tI C r)
  tg : ∀ {c : Cc} {ex : Expr} {r : Tg}, ctg n c ex = some r → ∀ {X : Cx}, Good X C c k → PG X ex (tG C r)
  tgs : ∀ {c : Cc} {l : List Expr} {r : List Tg}, ctgs n c l = some r → noStars l = true ∧ l.length = r.length ∧ ∀ {X : Cx}, Good X C c k → PGs X l (tGs C r)
section
variable {C : Ct} {k n : Nat} {c : Cc} {X : Cx}
theorem ne_b {x y : Str} (h : ¬ x = y) : (x == y) = false := by simpa using h
theorem name_ok {x : Str} {np : Pos} {r : E} (h : ce (n + 1) c (.Name x np) = some r) (G : Good X C c k) : PE X (.Name x np) (tE C r) := by
  simp only [ce] at h
  split at h
  · cases h
  · rename_i hd
    simp only [dbg, Bool.or_eq_true, decide_eq_true_eq, not_or] at hd
    obtain ⟨d1, d2⟩ := hd
    have d1' : (x == ("__debug__" : Str)) = false := by simpa using d1
    split at h
    · rename_i hv
      cases hs : slotOf x c.N with
      | none => rw [hs] at h; cases h
      | some i =>
        rw [hs] at h
        cases h
        exact ge_var (by rw [G.hN]; exact slotOf_ok hs) (by rw [G.sc]; exact visB_ok hv) d1' (ne_b d2)
    · split at h
      · rename_i d hg
        cases h
        obtain ⟨g1, g2, g3, u, v, g4, g5, g6⟩ := gOf_ok G hg
        exact ge_cst (pe_glob g1 g4 g5 g2) fun _ _ G _ _ _ => g6 G
      · cases h
theorem const_ok {cc : Const} {kk : Nat} {np : Pos} {r : E} (h : ce (n + 1) c (.Constant cc kk np) = some r) : PE X (.Constant cc kk np) (tE C r) := by
  cases cc <;> simp only [ce] at h <;> cases h
  · exact ge_cst pe_non fun _ _ _ _ _ _ => .non
  · exact ge_cst pe_bl fun _ _ _ _ _ _ => .bl
  · exact ge_cst pe_int fun _ _ _ _ _ _ => .int
  · exact ge_cst pe_str fun _ _ _ _ _ _ => .str
theorem bi_ok {x : Str} {b : BI} (h : biOf x = some b) : (b = .len ∨ b = .sum ∨ b = .all ∨ b = .any ∨ b = .max ∨ b = .min ∨ b = .divmod) ∧ bootBuiltins x = some (.builtin (idB b)) := by
  unfold biOf at h
  split at h
  · rename_i e; cases h; subst e; exact ⟨.inl rfl, PySem.boot_len⟩
  · split at h
    · rename_i e; cases h; subst e; exact ⟨.inr (.inr (.inl rfl)), PyProof.Rows.boot_all⟩
    · split at h
      · rename_i e; cases h; subst e; exact ⟨.inr (.inr (.inr (.inl rfl))), PyProof.Rows.boot_any⟩
      · split at h
        · rename_i e; cases h; subst e; exact ⟨.inr (.inl rfl), PyProof.Rows.boot_sum⟩
        · split at h
          · rename_i e; cases h; subst e; exact ⟨.inr (.inr (.inr (.inr (.inr (.inr rfl))))), PyProof.Rows.boot_divmod⟩
          · split at h
            · rename_i e; cases h; subst e; exact ⟨.inr (.inr (.inr (.inr (.inl rfl)))), PyProof.Rows.boot_max⟩
            · split at h
              · rename_i e; cases h; subst e; exact ⟨.inr (.inr (.inr (.inr (.inr (.inl rfl))))), PyProof.Rows.boot_min⟩
              · cases h
theorem bt_ok {x : Str} {b : BI} (h : btOf x = some b) : (b = .list ∨ b = .tuple ∨ b = .int) ∧ bootBuiltins x = some (.type (idT b)) := by
  unfold btOf at h
  split at h
  · rename_i e; cases h; subst e; exact ⟨.inl rfl, PyProof.Rows.boot_list⟩
  · split at h
    · rename_i e; cases h; subst e; exact ⟨.inr (.inl rfl), PyProof.Rows.boot_tuple⟩
    · split at h
      · rename_i e; cases h; subst e; exact ⟨.inr (.inr rfl), PyProof.Rows.boot_int⟩
      · cases h
theorem isi_ok {t a : Expr} {ty : Ty} {ea : E} {p pos : Pos} (G : Good X C c k) (h : tyOf c t = some ty) (g1 : Gl X "isinstance") (g4 : X.mg "isinstance" = none) (hn : notStar a = true) (ha : PE X a (tE C ea)) : PE X (.Call (.Name "isinstance" p) [a, t] [] pos) (tE C (.isi ea ty)) := by
  have one : ∀ t : Ty, (∀ c s, t ≠ .cls c s) → ∀ (x : Str) (np : Pos), x = bTy t → Gl X x → X.mg x = none → PE X (.Call (.Name "isinstance" p) [a, .Name x np] [] pos) (tE C (.isi ea t)) := by
    rintro t ht x np rfl q1 q4
    exact ge_isi G.hK ht g1 g4 q1 q4 hn ha
  unfold tyOf at h
  split at h
  · rename_i x np
    split at h
    · rename_i hg
      obtain ⟨q1, q2, q3, q4⟩ := gOf_ok G hg
      repeat' split at h
      all_goals first
        | (cases h; done)
        | (rename_i e; cases h; subst e; first
            | exact one .int (fun _ _ z => by cases z) _ _ rfl q1 q4
            | exact one .str (fun _ _ z => by cases z) _ _ rfl q1 q4
            | exact one .bool (fun _ _ z => by cases z) _ _ rfl q1 q4
            | exact one .list (fun _ _ z => by cases z) _ _ rfl q1 q4
            | exact one .tuple (fun _ _ z => by cases z) _ _ rfl q1 q4
            | exact one .dict (fun _ _ z => by cases z) _ _ rfl q1 q4)
    · rename_i q fo n s hg
      cases h
      obtain ⟨q1, q2, q3, q4⟩ := gOf_ok G hg
      exact ge_isiC G.hK (q4.2 _ _ rfl) g1 g4 q1 q2 hn ha
    · cases h
  · cases h
theorem both {ex : Expr} {r : E} (hp : PE X ex (tE C r)) (h : isTest ex = false) : PE X ex (tE C r) ∧ PT X ex (tT C r) := ⟨hp, gt_val hp h⟩
theorem call_ok (ih : OkN C k n) {x : Str} {np pos : Pos} {es : List Expr} {r : E} (h : ce (n + 1) c (.Call (.Name x np) es [] pos) = some r) (G : Good X C c k) : PE X (.Call (.Name x np) es [] pos) (tE C r) := by
  simp only [ce] at h
  split at h
  · cases h
  · rename_i hns
    have hns' : noStars es = true := by simpa using hns
    split at h
    · rename_i f hg
      obtain ⟨g1, g2, g3, a, fd, ps, g4, g5, g6, g7⟩ := gOf_ok G hg
      split at h
      · cases hc : car n c f.io es with
        | none => rw [hc] at h; cases h
        | some as =>
          rw [hc] at h
          cases h
          obtain ⟨q1, q2⟩ := ih.ar hc hns'
          exact ge_call g5 G.room g1 g2 g4 g6 g7 hns' q1 (q2 G)
      · cases h
    · rename_i q f so hg
      obtain ⟨g1, g2, g3, g4⟩ := gOf_ok G hg
      split at h
      · rename_i io hio
        split at h
        · cases hc : car n c io es with
          | none => rw [hc] at h; cases h
          | some as =>
            rw [hc] at h
            cases h
            obtain ⟨q1, q2⟩ := ih.ar hc hns'
            exact ge_new (g4.1 f rfl) hio G.room g1 g2 hns' q1 (q2 G)
        · cases h
      · cases h
    · rename_i hg
      obtain ⟨g1, g2, g3, g4⟩ := gOf_ok G hg
      split at h
      · rename_i hx
        have hx' : x = "isinstance" := of_decide_eq_true hx
        subst hx'
        split at h
        · rename_i a t
          split at h
          · rename_i ea ty h1 h2
            cases h
            simp only [noStars, List.all_cons, Bool.and_eq_true] at hns'
            exact isi_ok G h2 g1 g4 hns'.1 (ih.e h1 G).1
          · cases h
        · cases h
      split at h
      · rename_i hs2
        simp only [Bool.and_eq_true, decide_eq_true_eq] at hs2
        obtain ⟨rfl, hlen⟩ := hs2
        cases es with
        | nil => cases hlen
        | cons e1 es =>
          cases es with
          | nil => cases hlen
          | cons e2 es =>
            cases es with
            | cons _ _ => simp at hlen
            | nil =>
              simp only [noStars, List.all_cons, Bool.and_eq_true] at hns'
              cases hc : ces n c [e1, e2] with
              | none => rw [hc] at h; cases h
              | some as =>
                rw [hc] at h
                cases h
                obtain ⟨_, u, _⟩ := (ih.es hc G).all
                exact ge_sum2 G.calm g1 g4 hns'.1 (by unfold noStars; simp only [List.all_cons, Bool.and_eq_true]; exact hns'.2) u
      · cases es with
        | nil =>
          have : False := by
            revert h
            cases biOf x <;> cases btOf x <;> intro h <;> cases h
          exact this.elim
        | cons e1 es1 =>
          simp only [noStars, List.all_cons, Bool.and_eq_true] at hns'
          cases hb : biOf x with
          | some b =>
            rw [hb] at h
            cases hc : ces n c (e1 :: es1) with
            | none => simp only [hc] at h; cases h
            | some as =>
              simp only [hc] at h
              cases h
              obtain ⟨b1, b2⟩ := bi_ok hb
              obtain ⟨_, u, _⟩ := (ih.es hc G).all
              exact ge_bi G.hK G.calm b1 b2 g3 g2 g1 g4 hns'.1 (by unfold noStars; exact hns'.2) u
          | none =>
            rw [hb] at h
            cases ht : btOf x with
            | none => simp only [ht] at h; cases h
            | some b =>
              cases hc : ces n c (e1 :: es1) with
              | none => simp only [ht, hc] at h; cases h
              | some as =>
                simp only [ht, hc] at h
                cases h
                obtain ⟨b1, b2⟩ := bt_ok ht
                obtain ⟨_, u, _⟩ := (ih.es hc G).all
                exact ge_bt G.calm b1 b2 g3 g2 g1 g4 hns'.1 (by unfold noStars; exact hns'.2) u
    · cases h
theorem set_no {e : Expr} {env : PySem.Env} (h : isSet e = false) : ∀ x, foldedSetIterable e env x = pure x := by
  intro x
  cases e <;> first | rfl | (simp [isSet] at h)
theorem comp_ok (ih : OkN C k n) {elt tg iter : Expr} {ifs : List Expr} {scope : Scope} {pos : Pos} {as : Int} {r : E} (h : ce (n + 1) c (.ListComp elt [⟨tg, iter, ifs, as⟩] scope pos) = some r) (G : Good X C c k) :
    as = 0 ∧ ∃ ee tgt it cd own, r = .comp ee tgt it cd ∧ own.map (·.2) = tgt.slots ∧ isSet iter = false ∧ PI X tg iter (tI C it) ∧ BlkOk X.N X.env.scope scope own ∧
    (∀ (s : Shared) (H : Hp) (Ca : Addr) (cl : List (Str × Addr)) (fp : List Addr), PG (X.blk s H scope (compEnvC scope cl Ca X.env) fp) tg (tG C tgt)) ∧
    (∀ (s : Shared) (H : Hp) (Ca : Addr) (cl : List (Str × Addr)) (fp : List Addr), PTs (X.blk s H scope (compEnvC scope cl Ca X.env) fp) ifs (tCd C cd)) ∧
    (∀ (s : Shared) (H : Hp) (Ca : Addr) (cl : List (Str × Addr)) (fp : List Addr), PE (X.blk s H scope (compEnvC scope cl Ca X.env) fp) elt (tE C ee)) := by
  simp only [ce] at h
  split at h
  · cases h
  · rename_i hset
    have hset2 : isSet iter = false ∧ as = 0 := by simpa using hset
    obtain ⟨hset, has⟩ := hset2
    refine ⟨has, ?_⟩
    split at h
    · rename_i it tgt h1 h2
      split at h
      · cases h
      · rename_i hpair
        split at h
        · rename_i hb
          rw [Bool.and_eq_true, decide_eq_true_eq] at hb
          obtain ⟨hb1, hb2⟩ := hb
          have hp : isPair it = true → isTup tg = true := fun z => by
            rw [z] at hpair
            simpa using hpair
          have blk : BlkOk X.N X.env.scope scope (namesOf tgt c.N) := by rw [G.hN, G.sc]; exact blkOk_by hb1
          have hi := ih.it h1 tg hp G
          have hg : ∀ (s : Shared) (H : Hp) (Ca : Addr) (cl : List (Str × Addr)) (fp : List Addr), PG (X.blk s H scope (compEnvC scope cl Ca X.env) fp) tg (tG C tgt) := fun s H Ca cl fp => ih.tg h2 (G.blk s H scope Ca cl fp)
          have hs : isSet iter = false := hset
          split at h
          · rename_i ee h3
            cases h
            exact ⟨_, _, _, _, _, rfl, hb2, hs, hi, blk, hg, fun _ _ _ _ _ => gc_no, fun s H Ca cl fp => (ih.e h3 (G.blk s H scope Ca cl fp)).1⟩
          · rename_i ee i h3
            cases hc : ce n (inner c scope) i with
            | none => rw [hc] at h; cases h
            | some ei =>
              rw [hc] at h
              cases h
              exact ⟨_, _, _, _, _, rfl, hb2, hs, hi, blk, hg, fun s H Ca cl fp => gc_so (ih.e hc (G.blk s H scope Ca cl fp)).2, fun s H Ca cl fp => (ih.e h3 (G.blk s H scope Ca cl fp)).1⟩
          · cases h
        · cases h
    · cases h
theorem e_ok (ih : OkN C k n) : ∀ {ex : Expr} {r : E}, ce (n + 1) c ex = some r → ∀ {X : Cx}, Good X C c k → PE X ex (tE C r) ∧ PT X ex (tT C r) := by
  intro ex r h X G
  cases ex with
  | Name x np => exact both (name_ok h G) rfl
  | Constant cc kk np => exact both (const_ok h) rfl
  | UnaryOp op a pos =>
    cases op with
    | USub =>
      simp only [ce] at h
      cases hc : ce n c a with
      | none => rw [hc] at h; cases h
      | some ea => rw [hc] at h; cases h; exact both (ge_neg (ih.e hc G).1) rfl
    | Not =>
      simp only [ce] at h
      cases hc : ce n c a with
      | none => rw [hc] at h; cases h
      | some ea => rw [hc] at h; cases h; exact ⟨ge_not (ih.e hc G).1, gt_not (ih.e hc G).2⟩
    | _ => simp [ce] at h
  | BinOp a o b pos =>
    simp only [ce] at h
    split at h
    · rename_i bo ea eb h1 h2 h3
      cases h
      have := binOp_of h1
      subst this
      exact both (ge_bin G.hK (ih.e h2 G).1 (ih.e h3 G).1) rfl
    · cases h
  | Compare a ops cs pos =>
    have hu := G.room.units
    cases ops with
    | nil => simp [ce] at h
    | cons o ops =>
      cases cs with
      | nil => simp [ce] at h
      | cons b cs =>
        cases ops with
        | nil =>
          cases cs with
          | cons _ _ => simp [ce] at h
          | nil =>
            simp only [ce] at h
            split at h
            · cases h
            · rename_i hm
              have hm' : behindInMarks o b = false := by simpa using hm
              split at h
              · rename_i ea eb h1 h2
                cases h
                exact ⟨ge_cmp ⟨hu, G.hK, G.hw⟩ (ih.e h1 G).1 (ih.e h2 G).1 hm', gt_cmp ⟨hu, G.hK, G.hw⟩ (ih.e h1 G).1 (ih.e h2 G).1 hm'⟩
              · cases h
        | cons u ops =>
          cases cs with
          | nil => cases ops <;> simp [ce] at h
          | cons d cs =>
            cases ops with
            | cons _ _ => simp [ce] at h
            | nil =>
              cases cs with
              | cons _ _ => simp [ce] at h
              | nil =>
                simp only [ce] at h
                split at h
                · cases h
                · rename_i hm
                  have hm' : isSet b = false ∧ isSet d = false := by simpa using hm
                  split at h
                  · rename_i ea eb ed h1 h2 h3
                    cases h
                    exact ⟨ge_chain ⟨hu, G.hK, G.hw⟩ (ih.e h1 G).1 (ih.e h2 G).1 (ih.e h3 G).1 hm'.1 hm'.2, gt_chain ⟨hu, G.hK, G.hw⟩ (ih.e h1 G).1 (ih.e h2 G).1 (ih.e h3 G).1 hm'.1 hm'.2⟩
                  · cases h
  | BoolOp op l pos =>
    cases l with
    | nil => cases op <;> simp [ce] at h
    | cons a l =>
      cases op with
      | And => exact ⟨(ih.and_ h G pos).1, (ih.and_ h G pos).2.pt⟩
      | Or => exact ⟨(ih.or_ h G pos).1, (ih.or_ h G pos).2.pt⟩
  | IfExp t a b pos =>
    simp only [ce] at h
    split at h
    · rename_i et ea eb h1 h2 h3
      cases h
      exact ⟨ge_ite (ih.e h1 G).2 (ih.e h2 G).1 (ih.e h3 G).1, gt_ite (ih.e h1 G).2 (ih.e h2 G).2 (ih.e h3 G).2⟩
    · cases h
  | Tuple es kk pos =>
    simp only [ce] at h
    split at h
    · rename_i hcp
      simp only [Bool.and_eq_true] at hcp
      cases hc : car n c (es.map fun _ => true) es with
      | none => rw [hc] at h; cases h
      | some l =>
        rw [hc] at h; cases h
        exact both (ge_tupo ((ih.ar hc hcp.2).2 G)) rfl
    · cases hc : ces n c es with
      | none => rw [hc] at h; cases h
      | some l => rw [hc] at h; cases h; exact both (ge_tup (ih.es hc G).all.1) rfl
  | List es pos =>
    simp only [ce] at h
    cases hc : ces n c es with
    | none => rw [hc] at h; cases h
    | some l => rw [hc] at h; cases h; exact both (ge_lst (ih.es hc G).all.1) rfl
  | Dict ks vs pos =>
    refine both ?_ rfl
    cases ks with
    | nil =>
      cases vs with
      | nil => simp only [ce] at h; cases h; exact ge_dnew false
      | cons _ _ => simp only [ce] at h; cases h
    | cons k0 ks =>
      simp only [ce] at h
      split at h
      · rename_i kk ws h1 h2
        split at h
        · rename_i hl
          cases h
          exact ge_dct h1 (ih.es h2 G) hl.1 (List.cons_ne_nil _ _) hl.2
        · cases h
      · cases h
  | Attribute a m pos =>
    refine both ?_ rfl
    simp only [ce] at h
    split at h
    · rename_i hb
      cases hc : ce n c a with
      | none => rw [hc] at h; cases h
      | some ea => rw [hc] at h; cases h; exact ge_fld (fun q i hq => G.fl m q i hq) hb (ih.e hc G).1
    · cases h
  | Subscript a b pos =>
    have gen : (if isSlice b = true then none else match ce n c a, ce n c b with | some ea, some eb => (match cstOf b with | some k => if cpB c (.Subscript a b pos) = true then some (E.sub ea k) else some (E.idx ea eb) | none => some (E.idx ea eb)) | _, _ => none) = some r → PE X (.Subscript a b pos) (tE C r) := by
      intro h
      split at h
      · cases h
      · rename_i hs
        split at h
        · rename_i ea eb h1 h2
          have ix := ge_idx (pos := pos) G.hK G.hw G.room.units (ih.e h1 G).1 (ih.e h2 G).1 (by simpa using hs)
          split at h
          · rename_i k hk
            split at h
            · cases h
              unfold cstOf at hk
              split at hk
              · cases hk
                exact ge_sub G.hK G.hw G.room.units (ih.e h1 G).1
              · cases hk
            · cases h; exact ix
          · cases h; exact ix
        · cases h
    refine both ?_ rfl
    cases b with
    | Slice lo hi st p2 =>
      cases st with
      | none =>
        simp only [ce] at h
        split at h
        · rename_i ea el eh h1 h2 h3
          cases h
          exact ge_sli G.hK (ih.e h1 G).1 (ih.o h2 G) (ih.o h3 G)
        · cases h
      | some _ => simp only [ce] at h; exact gen h
    | _ => simp only [ce] at h; exact gen h
  | Call f es kws pos =>
    refine both ?_ rfl
    cases kws with
    | cons _ _ => cases f <;> simp [ce] at h
    | nil =>
      cases f with
      | Name x np => exact call_ok ih h G
      | Attribute a m ap =>
        simp only [ce] at h
        split at h
        · rename_i hb
          simp only [Bool.and_eq_true] at hb
          obtain ⟨hb1, hb2⟩ := hb
          split at h
          · rename_i hm
            have hm := of_decide_eq_true hm
            subst hm
            cases es with
            | cons _ _ => simp at h
            | nil =>
              simp only at h
              cases hc : ce n c a with
              | none => rw [hc] at h; cases h
              | some ea => rw [hc] at h; cases h; exact ge_upper hb1 hb2 (ih.e hc G).1
          · split at h
            · rename_i hg
              simp only [Bool.and_eq_true, decide_eq_true_eq] at hg
              obtain ⟨rfl, hg2, hg3⟩ := hg
              split at h
              · rename_i ea ees h1 h2
                cases h
                cases es with
                | nil => cases hg2
                | cons e1 es =>
                  cases es with
                  | nil => cases hg2
                  | cons e2 es =>
                    cases es with
                    | cons _ _ => simp at hg2
                    | nil =>
                      obtain ⟨_, u, _⟩ := (ih.es h2 G).all
                      exact ge_get G.hK G.hw hb1 hb2 hg3 (ih.e h1 G).1 u
              · cases h
            split at h
            · rename_i b io tb hms
              split at h
              · rename_i hc
                simp only [Bool.and_eq_true, decide_eq_true_eq] at hc
                obtain ⟨hns, hlen⟩ := hc
                split at h
                · rename_i f as h1 h2
                  cases h
                  obtain ⟨q1, q2⟩ := ih.ar h2 hns
                  have hmm := fun q g hq => G.ms m (b :: io) tb hms q g hq
                  rcases ih.rc h1 G with ⟨rfl, ee, rfl, pe⟩ | ⟨rfl, ee, rfl, pe⟩ | ⟨rfl, i, rfl, pe⟩
                  · exact ge_meth hmm G.room hb1 hb2 hns hlen q1 ⟨rfl, rfl, pe⟩ (q2 G)
                  · exact ge_meth hmm G.room hb1 hb2 hns hlen q1 ⟨rfl, rfl, pe⟩ (q2 G)
                  · exact ge_meth hmm G.room hb1 hb2 hns hlen q1 ⟨rfl, rfl, pe⟩ (q2 G)
                · cases h
              · cases h
            · cases h
        · cases h
      | _ => simp [ce] at h
  | ListComp elt gs scope pos =>
    refine both ?_ rfl
    cases gs with
    | nil => simp [ce] at h
    | cons g gs =>
      obtain ⟨tg, iter, ifs, as⟩ := g
      cases gs with
      | cons _ _ => simp [ce] at h
      | nil =>
        obtain ⟨rfl, ee, tgt, it, cd, own, rfl, ho, hs, hi, ok, hg, ht, he⟩ := comp_ok ih h G
        exact ge_comp G.calm (by rw [G.hN]; exact G.nd) hi ok ho hg ht he (set_no hs)
  | _ => simp [ce] at h
end
end FJ

/-! The compiler: the induction closed, statements, a def. -/
namespace FJ
open PySem L2
section
variable {C : Ct} {k n : Nat} {c : Cc} {X : Cx}
theorem and_ok (ih : OkN C k n) {a : Expr} {l : List Expr} {r : E} (h : cand (n + 1) c a l = some r) (G : Good X C c k) (pos : Pos) : PE X (.BoolOp .And (a :: l) pos) (tE C r) ∧ PW X (.BoolOp .And (a :: l) pos) (tT C r) := by
  cases l with
  | nil =>
    simp only [cand] at h
    exact ⟨pe_one (ih.e h G).1, gw_and1 (ih.e h G).2⟩
  | cons b l =>
    simp only [cand] at h
    split at h
    · rename_i ea eb h1 h2
      cases h
      exact ⟨ge_and (ih.e h1 G).1 (ih.and_ h2 G pos).1, gw_and (ih.e h1 G).2 (ih.and_ h2 G pos).2⟩
    · cases h
theorem or_ok (ih : OkN C k n) {a : Expr} {l : List Expr} {r : E} (h : cor (n + 1) c a l = some r) (G : Good X C c k) (pos : Pos) : PE X (.BoolOp .Or (a :: l) pos) (tE C r) ∧ PW X (.BoolOp .Or (a :: l) pos) (tT C r) := by
  cases l with
  | nil =>
    simp only [cor] at h
    exact ⟨pe_one (ih.e h G).1, gw_or1 (ih.e h G).2⟩
  | cons b l =>
    simp only [cor] at h
    split at h
    · rename_i ea eb h1 h2
      cases h
      exact ⟨ge_or (ih.e h1 G).1 (ih.or_ h2 G pos).1, gw_or (ih.e h1 G).2 (ih.or_ h2 G pos).2⟩
    · cases h
theorem es_ok (ih : OkN C k n) {l : List Expr} {r : Es} (h : ces (n + 1) c l = some r) (G : Good X C c k) : PEs X C l r := by
  cases l with
  | nil => simp only [ces] at h; cases h; trivial
  | cons e l =>
    simp only [ces] at h
    split at h
    · rename_i hn
      split at h
      · rename_i ee es h1 h2
        cases h
        exact ⟨hn, (ih.e h1 G).1, ih.es h2 G⟩
      · cases h
    · cases h
theorem o_ok (ih : OkN C k n) {l : Option Expr} {r : Oe} (h : co (n + 1) c l = some r) (G : Good X C c k) : PO X l (tO C r) := by
  cases l with
  | none => simp only [co] at h; cases h; exact go_no
  | some e =>
    simp only [co] at h
    cases hc : ce n c e with
    | none => rw [hc] at h; cases h
    | some ee => rw [hc] at h; cases h; exact go_so (ih.e hc G).1
theorem ar_ok (ih : OkN C k n) {io : List Bool} {l : List Expr} {r : Ar} (h : car (n + 1) c io l = some r) (hn : noStars l = true) : (l = [] → r = .nil ∧ io = []) ∧ ∀ {X : Cx}, Good X C c k → PA X l (tAr C io r) := by
  cases io with
  | nil =>
    cases l with
    | nil => simp only [car] at h; cases h; exact ⟨fun _ => ⟨rfl, rfl⟩, fun _ => gr_nil⟩
    | cons e l => simp only [car] at h; cases h
  | cons b io =>
    cases l with
    | nil => cases b <;> (simp only [car] at h; cases h)
    | cons e l =>
      refine ⟨fun z => absurd z (List.cons_ne_nil _ _), ?_⟩
      intro X G
      have hn1 : notStar e = true := by simp only [noStars, List.all_cons, Bool.and_eq_true] at hn; exact hn.1
      have hn2 : noStars l = true := by simp only [noStars, List.all_cons, Bool.and_eq_true] at hn; unfold noStars; exact hn.2
      cases b with
      | false =>
        simp only [car] at h
        split at h
        · rename_i ee as h1 h2
          cases h
          exact gr_ci hn1 (ih.e h1 G).1 ((ih.ar h2 hn2).2 G)
        · cases h
      | true =>
        simp only [car] at h
        split at h
        · rename_i f as h1 h2
          cases h
          rcases ih.rc h1 G with ⟨z, _⟩ | ⟨_, ee, rfl, pe⟩ | ⟨_, i, rfl, pe⟩
          · cases z
          · exact gr_ct hn1 pe ((ih.ar h2 hn2).2 G)
          · exact gr_cx hn1 pe ((ih.ar h2 hn2).2 G)
        · cases h
theorem rc_ok (ih : OkN C k n) {b : Bool} {ex : Expr} {f : Ar → Ar} (h : crc (n + 1) c b ex = some f) (G : Good X C c k) : (b = false ∧ ∃ ee, f = .ci ee ∧ PE X ex (tE C ee)) ∨ (b = true ∧ ∃ ee, f = .ct ee ∧ PE X ex (tE C ee)) ∨ (b = true ∧ ∃ i, f = .cx i ∧ PE X ex (tVar i)) := by
  have gen : ∀ {g : E → Ar → Ar}, (ce n c ex).map g = some f → ∃ ee, f = g ee ∧ PE X ex (tE C ee) := fun {g} h => by
    cases hc : ce n c ex with
    | none => rw [hc] at h; cases h
    | some ee => rw [hc] at h; cases h; exact ⟨ee, rfl, (ih.e hc G).1⟩
  cases b with
  | false => simp only [crc] at h; exact .inl ⟨rfl, gen h⟩
  | true =>
    simp only [crc] at h
    split at h
    · exact .inr (.inl ⟨rfl, gen h⟩)
    · split at h
      · rename_i x np _
        split at h
        · exact .inr (.inl ⟨rfl, gen h⟩)
        · rename_i hd
          simp only [dbg, Bool.or_eq_true, decide_eq_true_eq, not_or, Bool.not_eq_true', Bool.not_eq_false] at hd
          obtain ⟨⟨d1, d2⟩, d3⟩ := hd
          have d1' : (x == ("__debug__" : Str)) = false := by simpa using d1
          cases hs : slotOf x c.N with
          | none => rw [hs] at h; cases h
          | some i =>
            rw [hs] at h
            cases h
            exact .inr (.inr ⟨rfl, i, rfl, pe_var (by rw [G.hN]; exact slotOf_ok hs) (by rw [G.sc]; exact visB_ok d3) d1' (ne_b d2)⟩)
      · exact .inr (.inl ⟨rfl, gen h⟩)
theorem it_gen (ih : OkN C k n) {ex : Expr} {r : FJ.It} (h : (ce n c ex).map FJ.It.lst = some r) (tg : Expr) (G : Good X C c k) : PI X tg ex (tI C r) := by
  cases hc : ce n c ex with
  | none => rw [hc] at h; cases h
  | some ee => rw [hc] at h; cases h; exact gi_lst G.hK (ih.e hc G).1
theorem it_genf (ih : OkN C k n) {ex : Expr} {r : FJ.It} (h : (if cpB c ex = true then (ce n c ex).map FJ.It.lstf else (ce n c ex).map FJ.It.lst) = some r) (tg : Expr) (G : Good X C c k) : PI X tg ex (tI C r) := by
  split at h
  · cases hc : ce n c ex with
    | none => rw [hc] at h; cases h
    | some ee => rw [hc] at h; cases h; exact gi_lstf G.hK (ih.e hc G).1
  · exact it_gen ih h tg G
theorem tup_of {tg : Expr} (h : isTup tg = true) : ∃ es kk p, tg = .Tuple es kk p := by
  cases tg <;> first | exact ⟨_, _, _, rfl⟩ | (simp [isTup] at h)
theorem it_ok (ih : OkN C k n) {ex : Expr} {r : FJ.It} (h : cit (n + 1) c ex = some r) (tg : Expr) (hp : isPair r = true → isTup tg = true) (G : Good X C c k) : PI X tg ex (tI C r) := by
  cases ex with
  | Call f es kws pos =>
    cases f with
    | Name x np =>
      cases kws with
      | cons _ _ => simp only [cit] at h; exact it_genf ih h tg G
      | nil =>
        simp only [cit] at h
        split at h
        · rename_i hb
          simp only [Bool.and_eq_true] at hb
          obtain ⟨hb, hns⟩ := hb
          unfold bltB at hb
          split at hb
          · rename_i hg
            obtain ⟨g1, g2, g3, g4⟩ := gOf_ok G hg
            split at h
            · rename_i hx
              have hx := of_decide_eq_true hx
              subst hx
              split at h
              · rename_i a
                cases hc : ces n c [a] with
                | none => rw [hc] at h; cases h
                | some es =>
                  rw [hc] at h
                  cases h
                  have q := ih.es hc G
                  cases es with
                  | nil => exact q.elim
                  | cons ee es =>
                    cases es with
                    | cons _ _ => exact q.2.2.elim
                    | nil => exact gi_rng1 g1 g4 q.1 q.2.1
              · rename_i a b
                cases hc : ces n c [a, b] with
                | none => rw [hc] at h; cases h
                | some es =>
                  rw [hc] at h
                  cases h
                  have q := ih.es hc G
                  cases es with
                  | nil => exact q.elim
                  | cons ee es =>
                    cases es with
                    | nil => exact q.2.2.elim
                    | cons eb es =>
                      cases es with
                      | cons _ _ => exact q.2.2.2.2.elim
                      | nil => exact gi_rng2 g1 g4 q.1 q.2.2.1 q.2.1 q.2.2.2.1
              · cases h
            · split at h
              · rename_i hx
                have hx := of_decide_eq_true hx
                subst hx
                split at h
                · rename_i a
                  cases hc : ce n c a with
                  | none => rw [hc] at h; cases h
                  | some ee =>
                    rw [hc] at h
                    cases h
                    obtain ⟨l, kk, p, rfl⟩ := tup_of (hp rfl)
                    simp only [noStars, List.all_cons, Bool.and_eq_true] at hns
                    exact gi_enu G.hK g1 g4 hns.1 (ih.e hc G).1
                · cases h
              · split at h
                · rename_i hx
                  have hx := of_decide_eq_true hx
                  subst hx
                  split at h
                  · rename_i a b
                    split at h
                    · rename_i ea eb h1 h2
                      cases h
                      obtain ⟨l, kk, p, rfl⟩ := tup_of (hp rfl)
                      simp only [noStars, List.all_cons, Bool.and_eq_true] at hns
                      exact gi_zip G.hK g1 g4 hns.1 hns.2.1 (ih.e h1 G).1 (ih.e h2 G).1
                    · cases h
                  · cases h
                · exact it_gen ih h tg G
          · cases hb
        · exact it_gen ih h tg G
    | Attribute a m ap =>
      cases kws with
      | cons _ _ => simp only [cit] at h; exact it_genf ih h tg G
      | nil =>
        simp only [cit] at h
        split at h
        · rename_i hb
          simp only [Bool.and_eq_true, decide_eq_true_eq, List.isEmpty_iff] at hb
          obtain ⟨rfl, rfl, hb1, hb2⟩ := hb
          cases hc : ce n c a with
          | none => rw [hc] at h; cases h
          | some ee =>
            rw [hc] at h
            cases h
            obtain ⟨l, kk, p, rfl⟩ := tup_of (hp rfl)
            exact gi_itm G.hK G.hw hb1 hb2 (ih.e hc G).1
        · exact it_gen ih h tg G
    | _ => simp only [cit] at h; exact it_genf ih h tg G
  | _ => simp only [cit] at h; exact it_genf ih h tg G
theorem tg_ok (ih : OkN C k n) {ex : Expr} {r : Tg} (h : ctg (n + 1) c ex = some r) (G : Good X C c k) : PG X ex (tG C r) := by
  cases ex with
  | Name x np =>
    simp only [ctg] at h
    split at h
    · rename_i hl
      cases hs : slotOf x c.N with
      | none => rw [hs] at h; cases h
      | some i =>
        rw [hs] at h
        cases h
        obtain ⟨l1, l2⟩ := loc_ok G hl
        exact gg_name (by rw [G.hN]; exact G.nd) (by rw [G.hN]; exact slotOf_ok hs) l1 l2
    · cases h
  | Tuple es kk pos =>
    simp only [ctg] at h
    cases hs : ctgs n c es with
    | none => rw [hs] at h; cases h
    | some l =>
      rw [hs] at h
      cases h
      obtain ⟨q1, q2, q3⟩ := ih.tgs hs
      exact gg_tup G.hK G.calm q1 q2 (q3 G)
  | _ => simp only [ctg] at h; cases h
theorem tgs_ok (ih : OkN C k n) {l : List Expr} {r : List Tg} (h : ctgs (n + 1) c l = some r) : noStars l = true ∧ l.length = r.length ∧ ∀ {X : Cx}, Good X C c k → PGs X l (tGs C r) := by
  cases l with
  | nil => simp only [ctgs] at h; cases h; exact ⟨rfl, rfl, fun _ => ggs_nil⟩
  | cons e l =>
    simp only [ctgs] at h
    split at h
    · rename_i hn
      split at h
      · rename_i ee es h1 h2
        cases h
        obtain ⟨q1, q2, q3⟩ := ih.tgs h2
        refine ⟨?_, by simp [q2], fun G => ggs_cons hn (ih.tg h1 G) (q3 G)⟩
        simp only [noStars, List.all_cons, hn, Bool.true_and]; exact q1
      · cases h
    · cases h
theorem okN (C : Ct) (k : Nat) : ∀ n, OkN C k n
  | 0 => ⟨fun h => by simp [ce] at h, fun h => by simp [cand] at h, fun h => by simp [cor] at h, fun h => by simp [ces] at h, fun h => by simp [co] at h, fun h => by simp [car] at h, fun h => by simp [crc] at h, fun h => by simp [cit] at h, fun h => by simp [ctg] at h, fun h => by simp [ctgs] at h⟩
  | n + 1 => by
    have ih := okN C k n
    constructor
    · intro c ex r h X G; exact e_ok ih h G
    · intro c a l r h X G pos; exact and_ok ih h G pos
    · intro c a l r h X G pos; exact or_ok ih h G pos
    · intro c l r h X G; exact es_ok ih h G
    · intro c l r h X G; exact o_ok ih h G
    · intro c io l r h hn; exact ar_ok ih h hn
    · intro c b ex f h X G; exact rc_ok ih h G
    · intro c ex r h tg hp X G; exact it_ok ih h tg hp G
    · intro c ex r h X G; exact tg_ok ih h G
    · intro c l r h; exact tgs_ok ih h
end
end FJ

/-! The compiler: statements, a def. -/
namespace FJ
open PySem L2
structure GoodS (X : Cx) (C : Ct) (c : Cc) (k : Nat) : Prop extends Good X C c k where
  kd : c.sc.kind = .function
  po : PassesOwn (model X.prog X.w) X.A X.env X.xe
section
variable {C : Ct} {k n : Nat} {c : Cc} {X : Cx} {pos : Pos} {e tg : Expr} {s : S}
theorem vis_parts {x : Str} (h : (dbg x || decide (x = "__classdict__")) = false) : (x == ("__debug__" : Str)) = false ∧ (x == ("__classdict__" : Str)) = false := by
  simp only [dbg, Bool.or_eq_false_iff, decide_eq_false_iff_not] at h
  exact ⟨h.1, ne_b h.2⟩
theorem xp_ok (G : GoodS X C c k) (h : cxp c e = some s) : PS X (.Expr e pos) (tS C s) := by
  have ih := okN C k 1000
  unfold cxp at h
  split at h
  · rename_i s' h2
    cases h
    unfold capp at h2
    split at h2
    · rename_i x np m ap e1 cp
      split at h2
      · rename_i hb
        simp only [Bool.and_eq_true, decide_eq_true_eq, Bool.not_eq_true', dbg] at hb
        obtain ⟨hm, hv, hd, hcd, hn, hl⟩ := hb
        split at h2
        · rename_i i ee h3 h4
          split at h2
          · rename_i hm2
            subst hm2
            cases h2
            exact gs_app (by rw [G.hN]; exact slotOf_ok h3) (by rw [G.sc]; exact visB_ok hv) hd (ne_b hcd) hl hn (ih.e h4 G.toGood).1
          · rename_i hm2
            have hm3 : m = "update" := by simpa [hm2] using hm
            subst hm3
            cases h2
            exact gs_updd (by rw [G.hN]; exact slotOf_ok h3) (by rw [G.sc]; exact visB_ok hv) hd (ne_b hcd) hl hn (ih.e h4 G.toGood).1
        · cases h2
      · cases h2
    · rename_i x np k u kp spos m ap e1 cp
      split at h2
      · rename_i hb
        simp only [Bool.and_eq_true, decide_eq_true_eq, Bool.not_eq_true', dbg] at hb
        obtain ⟨rfl, hv, hd, hcd, hn, hl⟩ := hb
        split at h2
        · rename_i i ee h3 h4
          cases h2
          exact gs_appP (by rw [G.hN]; exact slotOf_ok h3) (by rw [G.sc]; exact visB_ok hv) hd (ne_b hcd) hl hn (ih.e h4 G.toGood).1
        · cases h2
      · cases h2
    · rename_i x np k u kp spos m ap cp
      split at h2
      · rename_i hb
        simp only [Bool.and_eq_true, decide_eq_true_eq, Bool.not_eq_true', dbg] at hb
        obtain ⟨rfl, hv, hd, hcd, hl⟩ := hb
        cases h3 : slotOf x c.N with
        | none => rw [h3] at h2; cases h2
        | some i =>
          rw [h3] at h2
          cases h2
          exact gs_clrP (by rw [G.hN]; exact slotOf_ok h3) (by rw [G.sc]; exact visB_ok hv) hd (ne_b hcd) hl
      · cases h2
    · rename_i f fa fk fp k u kp spos m ap j u2 p2 cp
      split at h2
      · rename_i hb
        simp only [Bool.and_eq_true, decide_eq_true_eq] at hb
        obtain ⟨rfl, hl⟩ := hb
        cases h4 : ce 1000 c (.Call f fa fk fp) with
        | none => rw [h4] at h2; cases h2
        | some ee =>
          rw [h4] at h2
          cases h2
          exact gs_appT hl rfl (ih.e h4 G.toGood).1
      · cases h2
    · cases h2
  · split at h
    · cases h
    · rename_i hc
      cases h4 : ce 1000 c e with
      | none => rw [h4] at h; cases h
      | some ee =>
        rw [h4] at h
        cases h
        refine gs_expr ?_ (ih.e h4 G.toGood).1
        cases e <;> first | rfl | (simp [isComp] at hc)
theorem new_ok (G : GoodS X C c k) {x : Str} {r : E} (h : cnew c x e = some r) : PE X e (tE C r) := by
  unfold cnew at h
  split at h
  · cases h; exact ge_dnew _
  · exact ((okN C k 1000).e h G.toGood).1
/-- name = a comprehension -/
theorem lc_ok (G : GoodS X C c k) {elt : Expr} {gs : List Comprehension} {scope : Scope} {p py : Pos} {x : Str} {i : Nat} {r : E} (hl : locB c x = true) (hi : slotOf x c.N = some i) (h : ce 1000 c (.ListComp elt gs scope p) = some r) :
    PS X (.Assign [.Name x py] (.ListComp elt gs scope p) pos) (tS C (.asg (.name i) r)) := by
  obtain ⟨l1, l2⟩ := loc_ok G.toGood hl
  have hN : X.N.Nodup := by rw [G.hN]; exact G.nd
  have hi' : X.N[i]? = some x := by rw [G.hN]; exact slotOf_ok hi
  have sw : swapsWith (.ListComp elt gs scope p) (some (.Name x py)) pos.line X.env = pure (X.env.blockKind == .function && X.env.kindOf x == some .local && py.line == p.line && !(scope.names.any fun (n, k) => n == x && (k == .local || k == .cell))) := rfl
  cases hb : (X.env.blockKind == .function && X.env.kindOf x == some .local && py.line == p.line && !(scope.names.any fun (n, k) => n == x && (k == .local || k == .cell))) with
  | false => exact gs_set hN hi' l1 l2 ((okN C k 1000).e h G.toGood).1 (by rw [sw, hb])
  | true =>
    have hloc : X.env.scope.names.lookup x = some .local := by
      simp only [Bool.and_eq_true] at hb
      have := hb.1.1.2
      simpa [PySem.Env.kindOf] using this
    cases gs with
    | nil => simp [ce] at h
    | cons g gs =>
      obtain ⟨tg, iter, ifs, as⟩ := g
      cases gs with
      | cons _ _ => simp [ce] at h
      | nil =>
        obtain ⟨rfl, ee, tgt, it, cd, own, rfl, ho, hs, hit, ok, hg, ht, he⟩ := comp_ok (okN C k 999) h G.toGood
        refine PS.imp (ps_setLc G.calm hN hi' hloc (by rw [sw, hb]) hit ok hg ht he (set_no hs)) fun D σ H q => ?_
        have q' := set_read q
        rw [ho]
        exact lc_read q'
theorem set_ok (G : GoodS X C c k) {x : Str} {py : Pos} {i : Nat} {r : E} (hl : locB c x = true) (hi : slotOf x c.N = some i) (h : cnew c x e = some r) : PS X (.Assign [.Name x py] e pos) (tS C (.asg (.name i) r)) := by
  obtain ⟨l1, l2⟩ := loc_ok G.toGood hl
  have hN : X.N.Nodup := by rw [G.hN]; exact G.nd
  have hi' : X.N[i]? = some x := by rw [G.hN]; exact slotOf_ok hi
  have gen : swapsWith e (some (.Name x py)) pos.line X.env = pure false → PS X (.Assign [.Name x py] e pos) (tS C (.asg (.name i) r)) := fun hs => gs_set hN hi' l1 l2 (new_ok G h) hs
  cases e with
  | ListComp elt gs scope p => exact lc_ok G hl hi h
  | SetComp _ _ _ _ => simp [cnew, ce] at h
  | DictComp _ _ _ _ _ => simp [cnew, ce] at h
  | _ => exact gen rfl
theorem par_sw {env : PySem.Env} {x y : Str} {p q pt : Pos} {kt k2 : Nat} {a b : Expr} {t2 : Pos} (hk : env.scope.kind = .function) (h1 : env.scope.names.lookup x = some .local) (h2 : env.scope.names.lookup y = some .local) (h3 : (p.line == q.line) = true) (h4 : x ≠ y) (h5 : notStar a = true) (h6 : notStar b = true) (h7 : [a, b].all (foldedForSure 8) = false) (h8 : [a, b].all (constantsAlone 8) = false) :
    swappedStores [.Tuple [.Name x p, .Name y q] kt pt] (.Tuple [a, b] k2 t2) env = pure (some [x, y]) := by
  have hbk : (env.blockKind != .function) = false := by
    unfold PySem.Env.blockKind
    rw [hk]; rfl
  have k1 : env.kindOf x = some .local := h1
  have k2' : env.kindOf y = some .local := h2
  have hpq : q.line = p.line := by simpa using (by simpa using h3 : p.line = q.line).symm
  have hxy : (y == x) = false := by simpa using (fun z : y = x => h4 z.symm)
  have hxy2 : (x == y) = false := by simpa using h4
  unfold swappedStores
  simp only [List.length_cons, List.length_nil, hbk, h7, h8]
  rw [if_neg (by decide), if_neg ?ns]
  case ns =>
    intro hh
    rw [List.any_eq_true] at hh
    obtain ⟨z, hz, ht⟩ := hh
    have hz' : notStar z = true := by
      rcases List.mem_cons.mp hz with rfl | hz
      · exact h5
      · rcases List.mem_cons.mp hz with rfl | hz
        · exact h6
        · cases hz
    cases z <;> first | (cases ht; done) | (simp [notStar] at hz'; done)
  simp [List.filterMap_cons, Expr.pos, k1, k2', hpq, List.eraseDups_cons, hxy, hxy2]
theorem par_ok (G : GoodS X C c k) {ts : List Expr} {kk : Nat} {p : Pos} (h : cpar c ts e = some s) : PS X (.Assign [.Tuple ts kk p] e pos) (tS C s) := by
  have ih := okN C k 1000
  unfold cpar at h
  split at h
  · split at h
    · rename_i hb
      simp only [Bool.and_eq_true, decide_eq_true_eq, Bool.not_eq_true'] at hb
      obtain ⟨b1, b2, b3, b4, b5, b6, b7, b8⟩ := hb
      split at h
      · rename_i i j ea eb g1 g2 g3 g4
        split at h
        · cases h
        · rename_i hij
          cases h
          rw [← G.sc] at b1 b2
          exact gs_par G.calm (by rw [G.hN]; exact G.nd) (by rw [G.hN]; exact slotOf_ok g1) (by rw [G.hN]; exact slotOf_ok g2) hij b1 b2 b5 b6 (ih.e g3 G.toGood).1 (ih.e g4 G.toGood).1 (par_sw (by rw [G.sc]; exact G.kd) b1 b2 b3 b4 b5 b6 b7 b8)
      · cases h
    · cases h
  · cases h
theorem as_ok (G : GoodS X C c k) (h : cas c tg e = some s) : PS X (.Assign [tg] e pos) (tS C s) := by
  have ih := okN C k 1000
  cases tg with
  | Name x py =>
    simp only [cas] at h
    split at h
    · rename_i hl
      split at h
      · rename_i i ee h1 h2
        cases h
        exact set_ok G hl h1 h2
      · cases h
    · cases h
  | Tuple ts kk p =>
    simp only [cas] at h
    split at h
    · exact par_ok G h
    · rename_i hb0
      split at h
      · cases h
      rename_i hb1
      have hb : isTup e = false ∧ isComp e = false := ⟨by simpa using hb0, by simpa using hb1⟩
      split at h
      · rename_i tgt ee h1 h2
        cases h
        refine gs_asg (fun i z => ?_) (ih.e h2 G.toGood).1 (ih.tg h1 G.toGood) hb.1 hb.2
        subst z
        simp only [ctg] at h1
        cases hs : ctgs 999 c ts with
        | none => rw [hs] at h1; cases h1
        | some l => rw [hs] at h1; cases h1
      · cases h
  | Subscript a kx p =>
    cases a with
    | Name x np =>
      simp only [cas] at h
      split at h
      · rename_i hb
        simp only [Bool.and_eq_true, decide_eq_true_eq, Bool.not_eq_true', dbg] at hb
        obtain ⟨hv, hd, hcd, hsl, hcm⟩ := hb
        split at h
        · rename_i i ek ee h1 h2 h3
          cases h
          exact gs_seti (by rw [G.hN]; exact slotOf_ok h1) (by rw [G.sc]; exact visB_ok hv) hd (ne_b hcd) hsl hcm (ih.e h2 G.toGood).1 (ih.e h3 G.toGood).1
        · cases h
      · cases h
    | _ => simp [cas] at h
  | Attribute o m p =>
    simp only [cas] at h
    cases o with
    | Name x np =>
      simp only [cfl] at h
      split at h
      · rename_i hb
        simp only [Bool.and_eq_true, decide_eq_true_eq, Bool.not_eq_true', dbg] at hb
        obtain ⟨hv, hd, hcd, hcm⟩ := hb
        split at h
        · rename_i i ee h1 h2
          cases h
          exact gs_setf (fun q i hq => G.fl m q i hq) (by rw [G.hN]; exact slotOf_ok h1) (by rw [G.sc]; exact visB_ok hv) hd (ne_b hcd) hcm (ih.e h2 G.toGood).1
        · cases h
      · cases h
    | _ => simp [cfl] at h
  | _ => simp [cas] at h
theorem aug_ok {o : Operator} (G : GoodS X C c k) (h : caug c tg o e = some s) : PS X (.AugAssign tg o e pos) (tS C s) := by
  have ih := okN C k 1000
  cases tg with
  | Name x py =>
    simp only [caug] at h
    split at h
    · rename_i hl
      obtain ⟨l1, l2⟩ := loc_ok G.toGood hl
      split at h
      · rename_i i ee h1 h2
        cases o with
        | Add => cases h; exact gs_aug (bo := .add) rfl (by rw [G.hN]; exact G.nd) (by rw [G.hN]; exact slotOf_ok h1) l1 l2 (ih.e h2 G.toGood).1 (.inl rfl)
        | Sub => cases h; exact gs_aug (bo := .sub) rfl (by rw [G.hN]; exact G.nd) (by rw [G.hN]; exact slotOf_ok h1) l1 l2 (ih.e h2 G.toGood).1 (.inr rfl)
        | _ => cases h
      · cases h
    · cases h
  | _ => simp [caug] at h
theorem ret_gen (G : GoodS X C c k) (h : (ce 1000 c e).map S.ret = some s) : PS X (.Return (some e) pos) (tS C s) := by
  cases h4 : ce 1000 c e with
  | none => rw [h4] at h; cases h
  | some ee => rw [h4] at h; cases h; exact gs_ret ((okN C k 1000).e h4 G.toGood).1
theorem ret_ok (G : GoodS X C c k) (h : cret c e = some s) : PS X (.Return (some e) pos) (tS C s) := by
  unfold cret at h
  split at h
  · rename_i x np
    split at h
    · cases h
    · rename_i hd
      obtain ⟨d1, d2⟩ := vis_parts (by simpa using hd)
      split at h
      · rename_i hv
        cases hs : slotOf x c.N with
        | none => rw [hs] at h; cases h
        | some i =>
          rw [hs] at h
          have hN : X.N[i]? = some x := by rw [G.hN]; exact slotOf_ok hs
          have hV : Vis X.env.scope x := by rw [G.sc]; exact visB_ok hv
          have h' : (if c.np ≤ i then S.retv i else S.ret (.var i)) = s := Option.some.inj h
          split at h'
          · subst h'; exact gs_retv (pe_var hN hV d1 d2)
          · subst h'; exact gs_ret (ge_var hN hV d1 d2)
      · exact ret_gen G h
  · exact ret_gen G h
structure OkS (C : Ct) (k n : Nat) : Prop where
  s : ∀ {c : Cc} {st : Stmt} {r : S}, cs n c st = some r → ∀ {X : Cx}, GoodS X C c k → PS X st (tS C r)
  ss : ∀ {c : Cc} {l : List Stmt} {r : S}, css n c l = some r → ∀ {X : Cx}, GoodS X C c k → PSs X l (tS C r)
theorem cnd_ok {t : Expr} {r : E} (h : cnd c t = some r) (G : Good X C c k) : PT X t (tT C r) := by
  unfold cnd at h
  split at h
  · cases hc : ce 1000 c t with
    | none => rw [hc] at h; cases h
    | some e => rw [hc] at h; cases h; exact gt_lend ((okN C k 1000).e hc G).2
  · exact ((okN C k 1000).e h G).2
theorem s_ok (ih : OkS C k n) {st : Stmt} {r : S} (h : cs (n + 1) c st = some r) (G : GoodS X C c k) : PS X st (tS C r) := by
  have ie := okN C k 1000
  cases st with
  | Expr e pos => exact xp_ok G (by simpa only [cs] using h)
  | Assign ts e pos =>
    cases ts with
    | nil => simp [cs] at h
    | cons tg ts =>
      cases ts with
      | cons _ _ => simp [cs] at h
      | nil => exact as_ok G (by simpa only [cs] using h)
  | AugAssign tg o e pos => exact aug_ok G (by simpa only [cs] using h)
  | If t a b pos =>
    simp only [cs] at h
    split at h
    · rename_i et sa sb h1 h2 h3
      cases h
      exact gs_if (cnd_ok h1 G.toGood) (ih.ss h2 G) (ih.ss h3 G)
    · cases h
  | For tg iter b els pos =>
    cases els with
    | cons _ _ => simp [cs] at h
    | nil =>
      simp only [cs] at h
      split at h
      · cases h
      · rename_i hset
        split at h
        · rename_i tgt it sb h1 h2 h3
          split at h
          · cases h
          · rename_i hpair
            cases h
            refine gs_for G.po G.calm (ie.it h2 tg (fun z => ?_) G.toGood) (ie.tg h1 G.toGood) (ih.ss h3 G) (set_no (by simpa using hset))
            rw [z] at hpair
            simpa using hpair
        · cases h
  | While t b els pos =>
    cases els with
    | cons _ _ => simp [cs] at h
    | nil =>
      simp only [cs] at h
      split at h
      · rename_i et sb h1 h2
        cases h
        exact gs_while G.po (ie.e h1 G.toGood).2 (ih.ss h2 G)
      · cases h
  | Return e pos =>
    cases e with
    | none => simp only [cs] at h; cases h; exact gs_retN
    | some e => exact ret_ok G (by simpa only [cs] using h)
  | Raise a b pos => simp only [cs] at h; cases h; exact gs_raise
  | Try b hds els fin pos =>
    cases hds with
    | nil => simp [cs] at h
    | cons hd hds =>
      cases fin with
      | cons _ _ => simp [cs] at h
      | nil =>
        simp only [cs] at h
        split at h
        · rename_i sb sels h1 h2
          cases h
          exact gs_try (ih.ss h1 { G with po := PassesOwn.never }) (ih.ss h2 G)
        · cases h
  | Pass pos => simp only [cs] at h; cases h; exact gs_pass
  | Break pos => simp only [cs] at h; cases h; exact gs_brk
  | Continue pos => simp only [cs] at h; cases h; exact gs_cont
  | _ => simp [cs] at h
theorem ss_ok (ih : OkS C k n) {l : List Stmt} {r : S} (h : css (n + 1) c l = some r) (G : GoodS X C c k) : PSs X l (tS C r) := by
  cases l with
  | nil => simp only [css] at h; cases h; exact gss_nil
  | cons st l =>
    cases l with
    | nil => simp only [css] at h; exact gss_one (ih.s h G)
    | cons s2 l =>
      simp only [css] at h
      split at h
      · rename_i a b h1 h2
        cases h
        exact gss_cons (ih.s h1 G) (ih.ss h2 G)
      · cases h
theorem okS (C : Ct) (k : Nat) : ∀ n, OkS C k n
  | 0 => ⟨fun h => by simp [cs] at h, fun h => by simp [css] at h⟩
  | n + 1 => by
    have ih := okS C k n
    constructor
    · intro c st r h X G; exact s_ok ih h G
    · intro c l r h X G; exact ss_ok ih h G
end
end FJ

/-! A def keeps what the small language says of it. -/
namespace FJ
open PySem L2

def ioOk (io : List Bool) (as : List Nat) : Bool := as.all fun i => !(io[i]?.getD false)
section
variable {C : Ct} {G H G' H' : Hp} {P P' : Nat → Addr → Prop} {r r' : Env} {σ σ' : St}
theorem maskE_len : ∀ {io : List Bool} {l : Env}, l.length = io.length → (maskE io l).length = io.length
  | [], [], _ => rfl
  | [], _ :: _, h => by simp at h
  | _ :: _, [], h => by simp at h
  | true :: io, t :: l, h => by simp [maskE, maskE_len (io := io) (l := l) (by simpa using h)]
  | false :: io, t :: l, h => by simp [maskE, maskE_len (io := io) (l := l) (by simpa using h)]
theorem maskE_get : ∀ {io : List Bool} {l : Env} {j : Nat} {t : T}, (maskE io l)[j]? = some (some t) ↔ io[j]? = some true ∧ l[j]? = some (some t)
  | [], l, j, t => by simp [maskE]
  | _ :: _, [], j, t => by
    rename_i b io
    cases b <;> simp [maskE]
  | true :: io, x :: l, 0, t => by simp [maskE]
  | false :: io, x :: l, 0, t => by simp [maskE]
  | true :: io, x :: l, j + 1, t => by simp only [maskE, List.getElem?_cons_succ]; exact maskE_get
  | false :: io, x :: l, j + 1, t => by simp only [maskE, List.getElem?_cons_succ]; exact maskE_get
theorem Sst.start {ts : List T} {vs : List V} {N : List Str} {n : Nat} (st : Sst C G H P (ts.map some) (vs.map some)) (hn : n = ts.length) : Sst C G H P (ts.map some ++ List.replicate (N.length - n) none) (L2.start N vs) := by
  have hl := st.len
  rw [List.length_map, List.length_map] at hl
  have nn : ∀ (j : Nat) (t : T), (ts.map some ++ List.replicate (N.length - n) (none : Option T))[j]? = some (some t) → (ts.map some)[j]? = some (some t) := by
    intro j t h
    rw [List.getElem?_append] at h
    split at h
    · exact h
    · rw [List.getElem?_replicate] at h
      split at h <;> cases h
  refine ⟨?_, st.gh, fun i t e => ?_, fun i a h => ?_, st.dj⟩
  · unfold L2.start
    simp only [List.length_append, List.length_map, List.length_replicate]
    omega
  · obtain ⟨v, h1, h2⟩ := st.sl i t (nn i t e)
    refine ⟨v, ?_, h2⟩
    unfold L2.start
    rw [List.getElem?_append_left (ltOf h1)]
    exact h1
  · obtain ⟨t, e⟩ := st.pe i a h
    refine ⟨t, ?_⟩
    rw [List.getElem?_append_left (ltOf e)]
    exact e
/-- what the parameters are behind the body -/
theorem Sst.mask {io : List Bool} {as : List Nat} {vs : List V} {N : List Str} (st : Sst C G' H' P' r' σ') (f : Fr as (L2.start N vs) σ') (ho : ioOk io as = true) (hl : vs.length = io.length) (hN : io.length ≤ N.length) :
    Sst C G' H' (fun j a => io[j]? = some true ∧ P' j a) (maskE io (r'.take io.length)) (vs.map some) := by
  have lσ : σ'.length = N.length := by
    rw [f.1]; unfold L2.start; simp only [List.length_append, List.length_map, List.length_replicate]; omega
  have lr : (r'.take io.length).length = io.length := by rw [List.length_take, st.len, lσ]; omega
  refine ⟨?_, st.gh, fun i t e => ?_, fun i a h => ?_, fun i j a h1 h2 => st.dj i j a h1.2 h2.2⟩
  · rw [maskE_len lr, List.length_map, hl]
  · obtain ⟨e1, e2⟩ := maskE_get.mp e
    have hi : i < io.length := ltOf e1
    rw [List.getElem?_take_of_lt hi] at e2
    obtain ⟨v, h1, h2⟩ := st.sl i t e2
    have hni : i ∉ as := fun z => by
      have := List.all_eq_true.mp ho i z
      rw [e1] at this
      cases this
    rw [f.2 i hni] at h1
    refine ⟨v, ?_, ?_⟩
    · unfold L2.start at h1
      rw [List.getElem?_append_left (by rw [List.length_map, hl]; exact hi)] at h1
      exact h1
    · have : (fun a => io[i]? = some true ∧ P' i a) = P' i := by
        funext a
        exact propext ⟨fun h => h.2, fun h => ⟨e1, h⟩⟩
      rw [this]; exact h2
  · obtain ⟨t, e⟩ := st.pe i a h.2
    exact ⟨t, maskE_get.mpr ⟨h.1, by rw [List.getElem?_take_of_lt (ltOf h.1)]; exact e⟩⟩
end
section
variable {P : Program} {w : World} {K : PySem.W.Frag} {mg : Str → Option Value} {base : Heap} {C : Ct} {k : Nat} {x qual : Str} {params : Arguments} {body : List Stmt} {scope : Scope} {f : Addr} {fd : FuncData} {c : Cc} {ps : List Str} {b : S} {io : List Bool}
theorem GOk.mono {j : Nat} {gi : GI} (h : j ≤ k) (g : GOk P w K mg base C j x gi) : GOk P w K mg base C k x gi := by
  cases gi with
  | fn fn =>
    obtain ⟨a, fd, ps, g1, g2, g3, g4⟩ := g
    exact ⟨a, fd, ps, g1, g2.mono h, g3, g4⟩
  | con d => exact g
  | blt => exact g
  | cls _ fo so =>
    refine ⟨fun f hf => ?_, g.2⟩
    obtain ⟨j, fa, fd, ps, g1, g2⟩ := (g.1 f hf).ex
    exact ⟨j, fa, fd, ps, Nat.le_trans g1 h, g2⟩
theorem fn_ok (F : FunD K x qual params body scope [] [] f fd) (S : FnScope c.N ps c.sc) (hsc : c.sc = scope) (hK : K = C.K ∧ w = C.w) (hb : css 4194304 c body = some b) (hl : io.length = ps.length) (ho : ioOk io b.asgs = true)
    (hg : ∀ x gi, c.g x = some gi → GOk P w K mg base C k x gi) (hfl : ∀ m q i, c.fl m q = some i → FOk K C q m i) (hms : ∀ m io tb, c.ms m = some (io, tb) → ∀ q f, tb q = some f → f.io = io ∧ MOk P w K mg base C k q m f) : FnOk P w K mg base CX0 (k + 1) f fd ps (spFn C (mkFn c.N.length io b)) := by
  subst hsc
  have hpl : ps.length ≤ c.N.length := by have := congrArg List.length S.pre; rw [List.length_take] at this; omega
  refine F.ok S (fun vs H Q E h => ?_) (fun cdv A outer s H vs Q E hr h => ⟨tS C b, PSs.nox ((okS C k 4194304).ss hb ?_), ?_⟩)
  · have := spFn_len h
    rw [this]; exact hl
  · exact { hK := hK.1, hw := hK.2, hN := rfl, nd := S.nd, sc := rfl, calm := rfl, cell := fun _ _ => rfl, room := hr, g := hg, fl := hfl, ms := hms, kd := S.kind, po := PassesOwn.never }
  · obtain ⟨G, P0, ts, t, rp, st, hrun, hlen, kk⟩ := h
    have hvl : vs.length = io.length := by
      have := st.len
      rw [List.length_map, List.length_map] at this
      rw [← this, hlen]; rfl
    have hlen' : ts.length = io.length := hlen
    refine ⟨G, P0, _, st.start (N := c.N) (n := io.length) (by omega), ?_⟩
    simp only [mkFn] at hrun
    rw [if_pos hlen'] at hrun
    have hmask : ∀ (r' : Env) (σ' : St) (G' H' : Hp) (P' : Nat → Addr → Prop), Sst C G' H' P' r' σ' → Fr b.asgs (L2.start c.N vs) σ' → Sst C G' H' (fun j a => io[j]? = some true ∧ P' j a) (maskE io (r'.take io.length)) (vs.map some) := fun r' σ' G' H' P' st' f' => st'.mask f' ho hvl (by omega)
    cases he : evS b (ts.map some ++ List.replicate (c.N.length - io.length) none) with
    | nx r' =>
      rw [he] at hrun
      cases hrun
      exact fun σ' G' H' P' st' s' f' => kk .non G' H' _ (fun _ => False) (hmask r' σ' G' H' P' st' f') (s'.sub fun _ _ z => z.2) (.fr .non fun _ z => z) (fun _ _ z => z.elim) fun _ z => z.elim
    | rt t' r' =>
      rw [he] at hrun
      cases hrun
      exact fun v σ' G' H' P' A st' s' o n bb f' => kk v G' H' _ A (hmask r' σ' G' H' P' st' f') (s'.sub fun _ _ z => z.2) o (fun i a ha z => n i a ha z.2) bb
    | bk r' => rw [he] at hrun; cases hrun
    | ct r' => rw [he] at hrun; cases hrun
    | stuck => rw [he] at hrun; cases hrun
/-- the same as the name stands for it -/
theorem fn_gok (F : FunD K x qual params body scope [] [] f fd) (S : FnScope c.N ps c.sc) (hsc : c.sc = scope) (hK : K = C.K ∧ w = C.w) (hb : css 4194304 c body = some b) (hl : io.length = ps.length) (ho : ioOk io b.asgs = true) (hm : mg x = some (.ref f))
    (hbd : ∀ (kV doc pm : Value) (an : Option Addr) (cdv ct : Value) (us : List Value), us.length = ps.length → bindArgs (PySem.W.fnOf x qual params body scope .none kV doc pm an cdv ct) ⟨us, []⟩ = pure (ps.zip us))
    (hg : ∀ x gi, c.g x = some gi → GOk P w K mg base C k x gi) (hfl : ∀ m q i, c.fl m q = some i → FOk K C q m i) (hms : ∀ m io tb, c.ms m = some (io, tb) → ∀ q f, tb q = some f → f.io = io ∧ MOk P w K mg base C k q m f) : GOk P w K mg base C (k + 1) x (.fn (mkFn c.N.length io b)) :=
  ⟨f, fd, ps, hm, fn_ok F S hsc hK hb hl ho hg hfl hms, F.kp, F.bindsN hbd⟩
theorem tab_ok {tab : List (Str × GI)} (h : ∀ p ∈ tab, GOk P w K mg base C k p.1 p.2) : ∀ x gi, tab.lookup x = some gi → GOk P w K mg base C k x gi := by
  intro x gi e
  induction tab with
  | nil => cases e
  | cons p tab ih =>
    obtain ⟨y, g⟩ := p
    rw [List.lookup_cons] at e
    split at e
    · rename_i hxy
      have : x = y := by simpa using hxy
      cases e
      rw [this]
      exact h _ (List.mem_cons_self ..)
    · exact ih (fun p hp => h p (List.mem_cons_of_mem _ hp)) e
theorem gok_int {i : Int} (h : ∃ t, mg x = some (.int i t)) : GOk P w K mg base C k x (.con (.int i)) := by
  obtain ⟨t, ht⟩ := h
  exact ⟨_, .int i, ht, ⟨t, rfl⟩, fun _ => .int⟩
theorem gok_str {z : Str} (h : ∃ t, mg x = some (.str z t)) : GOk P w K mg base C k x (.con (.str z)) := by
  obtain ⟨t, ht⟩ := h
  exact ⟨_, .str z, ht, ⟨t, rfl⟩, fun _ => .str⟩
/-- the classes by number -/
abbrev CtOf (K : PySem.W.Frag) (w : World) (CN : List Str) (CF : List (List Str)) : Ct := ⟨K, fun c => He.ga K (CN.getD c ""), fun c => CF.getD c [], w⟩
/-- the entries in their order -/
def pairB : List DictEntry → List (Str × Int) → Bool
  | [], [] => true
  | e :: es, q :: r => (match e.key, e.val with
    | .str x _, .int j _ => decide (x = q.1) && decide (j = q.2)
    | _, _ => false) && pairB es r
  | _, _ => false
def ordB (K : PySem.W.Frag) (a : Addr) (kvs : List (Str × Int)) : Bool := match K.lookup a with
  | some ⟨_, _, .dict es _, _⟩ => pairB es.toList kvs && decide (kvs.map (·.1)).Nodup
  | _ => false
theorem pair_ok : ∀ {es : List DictEntry} {kvs : List (Str × Int)}, pairB es kvs = true → KPairs es (kvs.map (·.1)) ((kvs.map (·.2)).map V.int)
  | [], [], _ => .nil
  | [], _ :: _, h => by cases h
  | _ :: _, [], h => by cases h
  | e :: es, q :: r, h => by
    obtain ⟨k, i⟩ := q
    unfold pairB at h
    rw [Bool.and_eq_true] at h
    obtain ⟨h1, h2⟩ := h
    cases hk : e.key with
    | str x t =>
      cases hv : e.val with
      | int j u =>
        rw [hk, hv] at h1
        simp only [Bool.and_eq_true, decide_eq_true_eq] at h1
        obtain ⟨rfl, rfl⟩ := h1
        exact .cons hk (by rw [hv]; exact ⟨u, rfl⟩) (pair_ok h2)
      | _ => rw [hk, hv] at h1; cases h1
    | _ => rw [hk] at h1; cases h1
/-- a written dict from texts to ints: there, not there -/
def tabI (K : PySem.W.Frag) (a : Addr) (kvs : List (Str × Int)) (ms : List Str) : Bool := ordB K a kvs && ((kvs.all fun q => match PySem.W.nsIn K a q.1 with
    | some (some (.int j _)) => decide (j = q.2)
    | _ => false) && ms.all fun m => match PySem.W.nsIn K a m with
    | some none => true
    | _ => false)
theorem reps_ints {C : Ct} {G : Hp} : ∀ l : List Int, Reps C G (l.map .int) (l.map .int)
  | [] => .nil
  | _ :: l => .cons .int (reps_ints l)
theorem gok_tab {CN : List Str} {CF : List (List Str)} {kvs : List (Str × Int)} {ms : List Str} (hm : mg x = some (.ref (He.ga K x))) (t : ∃ es n, KDict K w (He.ga K x) es n) (h : tabI K (He.ga K x) kvs ms = true) :
    GOk P w K mg base (CtOf K w CN CF) k x (.con (.tab (kvs.map (·.1)) ((kvs.map (·.2)).map .int) ms)) := by
  obtain ⟨es, n, h1, h2, h3⟩ := t
  unfold tabI at h
  rw [Bool.and_eq_true, Bool.and_eq_true] at h
  obtain ⟨ho, h⟩ := h
  have kits : KIts K w (He.ga K x) (kvs.map (·.1)) ((kvs.map (·.2)).map V.int) := by
    unfold ordB at ho
    rw [h1] at ho
    simp only [Bool.and_eq_true, decide_eq_true_eq] at ho
    exact ⟨es, n, ⟨h1, h2, h3⟩, ho.2, pair_ok ho.1⟩
  refine ⟨_, .ref (He.ga K x), hm, rfl, fun G => .tab (vs := (kvs.map (·.2)).map .int) kits h3 (fun i q hi => ?_) (fun m hmm => ?_) (reps_ints _)⟩
  · rw [List.getElem?_map] at hi
    cases hk : kvs[i]? with
    | none => rw [hk] at hi; cases hi
    | some p =>
      rw [hk] at hi
      cases hi
      refine ⟨.int p.2, by rw [List.getElem?_map, List.getElem?_map, hk]; rfl, es, n, ?_⟩
      have := List.all_eq_true.mp h.1 p (List.mem_of_getElem? hk)
      split at this
      · rename_i j tk hn
        have : j = p.2 := by simpa using this
        subst this
        exact ⟨_, h1, h2, hn, ⟨tk, rfl⟩⟩
      · cases this
  · have := List.all_eq_true.mp h.2 m hmm
    split at this
    · rename_i hn
      exact ⟨es, n, h1, h2, h3, hn⟩
    · cases this
theorem slotOf_mem {x : Str} {N : List Str} {i : Nat} (h : slotOf x N = some i) : x ∈ N := List.mem_of_getElem? (slotOf_ok h)
theorem fl_ok {CN : List Str} {CF : List (List Str)} (hlen : CN.length = CF.length) (h : ∀ p ∈ CN.zip CF, Cls K (He.ga K p.1) ∧ p.2.Nodup ∧ p.2.length < 1000 ∧ ∀ m ∈ p.2, NoAttr K (He.ga K p.1) m) :
    ∀ m q i, slotOf m (CF.getD q []) = some i → FOk K (CtOf K w CN CF) q m i := by
  intro m q i hs
  have hq : q < CF.length := by
    by_cases hq : q < CF.length
    · exact hq
    · rw [List.getD_eq_getElem?_getD, List.getElem?_eq_none (by omega)] at hs
      cases hs
  have e1 : CF.getD q [] = CF[q] := by rw [List.getD_eq_getElem?_getD, List.getElem?_eq_getElem hq]; rfl
  have e2 : CN.getD q "" = CN[q] := by rw [List.getD_eq_getElem?_getD, List.getElem?_eq_getElem (by omega)]; rfl
  have hz : (CN[q], CF[q]) ∈ CN.zip CF := by
    refine List.mem_of_getElem? (i := q) ?_
    rw [List.getElem?_zip_eq_some]
    exact ⟨List.getElem?_eq_getElem (by omega), List.getElem?_eq_getElem hq⟩
  obtain ⟨h1, h2, h3, h4⟩ := h _ hz
  rw [e1] at hs
  refine ⟨?_, ?_, ?_, ?_, ?_⟩
  · show Cls K (He.ga K (CN.getD q "")); rw [e2]; exact h1
  · show NoAttr K (He.ga K (CN.getD q "")) m; rw [e2]; exact h4 m (slotOf_mem hs)
  · show (CF.getD q [])[i]? = some m; rw [e1]; exact slotOf_ok hs
  · show (CF.getD q []).Nodup; rw [e1]; exact h2
  · show (CF.getD q []).length < 1000; rw [e1]; exact h3
abbrev MTab : Type := List (Str × List Bool × List (Nat × Fn))
abbrev msOf (t : MTab) (m : Str) : Option (List Bool × (Nat → Option Fn)) := (t.lookup m).map fun x => (x.1, fun q => x.2.lookup q)
theorem lookup_mem {α β : Type} [BEq α] [LawfulBEq α] {x : α} {y : β} : ∀ {l : List (α × β)}, l.lookup x = some y → (x, y) ∈ l
  | [], h => by cases h
  | (a, b) :: l, h => by
    rw [List.lookup_cons] at h
    split at h
    · rename_i e
      cases h
      rw [beq_iff_eq] at e
      rw [e]; exact List.mem_cons_self ..
    · exact List.mem_cons_of_mem _ (lookup_mem h)
theorem ms_ok {t : MTab} (h : ∀ e ∈ t, ∀ p ∈ e.2.2, p.2.io = e.2.1 ∧ MOk P w K mg base C k p.1 e.1 p.2) : ∀ m io tb, msOf t m = some (io, tb) → ∀ q f, tb q = some f → f.io = io ∧ MOk P w K mg base C k q m f := by
  intro m io tb hm q f hf
  unfold msOf at hm
  cases hl : t.lookup m with
  | none => rw [hl] at hm; cases hm
  | some x =>
    rw [hl] at hm
    cases hm
    exact h _ (lookup_mem hl) _ (lookup_mem hf)
theorem MOk.mono {j : Nat} {q : Nat} {m : Str} {g : Fn} (h : j ≤ k) (g0 : MOk P w K mg base C j q m g) : MOk P w K mg base C k q m g := by
  obtain ⟨fa, fd, ps, a1, a2, a3, a4, a5⟩ := g0.ex
  exact ⟨fa, fd, ps, a1, a2, a3.mono h, a4, a5⟩
/-- a method as the class's name stands for it -/
theorem me_ok {CN : List Str} {CF : List (List Str)} {q : Nat} {m y : Str} {g : Fn} (hy : CN.getD q "" = y) (hc : Cls K (He.ga K y)) (hm : Meth K (He.ga K y) m (He.ma K (He.ga K y) m)) (F : FnOk P w K mg base CX0 k (He.fAd K (y, some m)) fd ps (spFn (CtOf K w CN CF) g)) (hb : Binds K fd ps []) (hn : m ∉ CF.getD q []) : MOk P w K mg base (CtOf K w CN CF) k q m g :=
  ⟨_, fd, ps, by show Cls K (He.ga K (CN.getD q "")); rw [hy]; exact hc, by show Meth K (He.ga K (CN.getD q "")) m _; rw [hy]; exact hm, F, hb, hn⟩
theorem ne_ok {CN : List Str} {CF : List (List Str)} {q j : Nat} {y : Str} {g : Fn} (hj : j + 1 ≤ k) (hy : CN.getD q "" = y) (hm : mg y = some (.ref (He.ga K y))) (M : Mk K (He.ga K y) (He.ma K (He.ga K y) "__init__")) (F : FnOk P w K mg base CX0 j (He.fAd K (y, some "__init__")) fd ps (spFn (CtOf K w CN CF) g)) (hb : Binds K fd ps []) :
    ∀ f, some g = some f → NOk P w K mg base (CtOf K w CN CF) k y q f := by
  intro f hf
  cases hf
  exact ⟨j, _, fd, ps, hj, by show mg y = some (.ref (He.ga K (CN.getD q ""))); rw [hy]; exact hm, by show Mk K (He.ga K (CN.getD q "")) _; rw [hy]; exact M, F, hb⟩
theorem cl_ok {q : Nat} {fo : Option Fn} {so : Option (Nat × List Nat)} (h1 : ∀ f, fo = some f → NOk P w K mg base C k x q f) (h2 : ∀ n s, so = some (n, s) → IOk K mg C x q n s) : GOk P w K mg base C k x (.cls q fo so) := ⟨h1, h2⟩
/-- what the head tells of a class that things are asked for -/
def isiB (K : PySem.W.Frag) (CN : List Str) (y : Str) (s : List Nat) : Bool :=
  ((List.range CN.length).all fun q => (He.Fa.cls (CN.getD q "")).ok K && (decide (PySem.W.findIn K (.ref (He.ga K (CN.getD q ""))) "__class__" = some (some (.builtin "object.__class__"))) && (decide (PySem.W.mroIn K (He.ga K (CN.getD q "")) (.type "object") = some true) &&
    decide (PySem.W.kitOne K (.ref (He.ga K (CN.getD q ""))) (.ref (He.ga K y)) = some (s.contains q))))) &&
  (decide (PySem.W.specialIn K (.builtin "object.__class__") "__get__" = some (some (.builtin "getset_descriptor.__get__"))) && (decide (PySem.W.takesIn K (.builtin "object.__class__") = some true) &&
    (["NoneType", "bool", "int", "str", "tuple", "list", "dict"].all fun T => decide (PySem.W.kitOne K (.type T) (.ref (He.ga K y)) = some false))))
theorem io_ok {CN : List Str} {CF : List (List Str)} {q n : Nat} {y : Str} {s : List Nat} (hn : CN.length = n) (hy : CN.getD q "" = y) (hm : mg y = some (.ref (He.ga K y))) (h : isiB K CN y s = true) : ∀ n' s', some (n, s) = some (n', s') → IOk K mg (CtOf K w CN CF) y q n' s' := by
  rintro n' s' e
  cases e
  subst hn
  simp only [isiB, Bool.and_eq_true, List.all_eq_true, decide_eq_true_eq] at h
  obtain ⟨h1, h2, h3, h4⟩ := h
  refine ⟨by show mg y = some (.ref (He.ga K (CN.getD q ""))); rw [hy]; exact hm, fun i hi => ?_, fun T hT => ?_⟩
  · obtain ⟨c1, c2, c3, c4⟩ := h1 i (List.mem_range.mpr hi)
    exact ⟨He.cls_ok c1, c2, h2, h3, c3, by show PySem.W.kitOne K _ (.ref (He.ga K (CN.getD q ""))) = _; rw [hy]; exact c4⟩
  · show PySem.W.kitOne K _ (.ref (He.ga K (CN.getD q ""))) = _
    rw [hy]; exact h4 T hT
/-- a law's promise -/
theorem law_sp {f : Fn} {a : Addr} {ns : List Int} {H : Hp} {Q : VK} {E : XK} (hK : K = C.K) (hl : f.io.length = 1) (hf : ∃ rp, f.run [.fr (.scr ns)] = some (.fr (.bl true), rp)) (h : SqL K H a (ns.map V.int)) (hQ : ∀ H', Q (.bl true) H') : spFn C f [.ref a] H Q E := by
  obtain ⟨rp, hf⟩ := hf
  refine ⟨H, fun _ _ => False, [.fr (.scr ns)], _, rp, ⟨rfl, Same.refl _, fun i t e => ?_, fun _ _ z => z.elim, fun _ _ _ z => z.elim⟩, hf, by rw [hl]; rfl, fun v G' H' P' A st s o n bb => ?_⟩
  · cases i with
    | zero =>
      cases e
      exact ⟨_, rfl, .fr (.scr (by rw [← hK]; exact h)) fun _ z => z⟩
    | succ i => cases e
  · cases o with
    | fr rp _ =>
      cases rp.bli
      exact hQ _
end
end FJ

/-! Plain rules for what the small language computes. -/
namespace FJ
open PySem L2

theorem forL_ind {bf : Env → O} {tg : Tg} {r : Env} {ds : List D} (I : Nat → Env → Prop) (h0 : I 0 r)
    (step : ∀ i d r, ds[i]? = some d → I i r → ∃ r1 r2, tg.bind d r = some r1 ∧ (bf r1 = .nx r2 ∨ bf r1 = .ct r2) ∧ I (i + 1) r2) : ∃ r', forL bf tg ds r = .nx r' ∧ I ds.length r' := by
  have main : ∀ (l : List D) (n : Nat) (r : Env), (∀ i d, l[i]? = some d → ds[n + i]? = some d) → I n r → ∃ r', forL bf tg l r = .nx r' ∧ I (n + l.length) r' := by
    intro l
    induction l with
    | nil => intro n r _ hI; exact ⟨r, by simp [forL], by simpa using hI⟩
    | cons d l ih =>
      intro n r hl hI
      obtain ⟨r1, r2, h1, h2, h3⟩ := step n d r (by simpa using hl 0 d rfl) hI
      obtain ⟨r', h4, h5⟩ := ih (n + 1) r2 (fun i e hi => by rw [show n + 1 + i = n + (i + 1) by omega]; exact hl (i + 1) e (by simpa using hi)) h3
      refine ⟨r', ?_, by rw [List.length_cons, show n + (l.length + 1) = n + 1 + l.length by omega]; exact h5⟩
      rcases h2 with h2 | h2 <;> simp [forL, h1, h2, h4]
  obtain ⟨r', h1, h2⟩ := main ds 0 r (fun i d h => by simpa using h) h0
  exact ⟨r', h1, by simpa using h2⟩
theorem compL_map {cf : Env → Option (Bool × Env)} {ef : Env → R} {i : Nat} {r : Env} {g : D → D} : ∀ {ds acc : List D}, r.set i none = r → (∀ d ∈ ds, cf (r.set i (some (.fr d))) = some (true, r.set i (some (.fr d)))) →
    (∀ d ∈ ds, ef (r.set i (some (.fr d))) = .ok (.v (.fr (g d))) (r.set i (some (.fr d)))) → acc.length + ds.length ≤ sizeLine → compL cf ef (.name i) ds r acc = .ok (acc ++ ds.map g) r
  | [], acc, _, _, _, _ => by simp [compL]
  | d :: ds, acc, hr, hc, he, hl => by
    have hw : wipeE (Tg.name i).slots (useE false (.v (.fr (g d))) (r.set i (some (.fr d)))) = r := by
      simp only [Tg.slots, wipeE, useE, List.set_set]; exact hr
    simp only [List.length_cons] at hl
    simp only [compL, Tg.bind, hc d (List.mem_cons_self ..), he d (List.mem_cons_self ..), hw]
    rw [if_pos (by omega), compL_map hr (fun d h => hc d (List.mem_cons_of_mem _ h)) (fun d h => he d (List.mem_cons_of_mem _ h)) (by simp; omega)]
    simp [Val.toD, T.toD]
@[simp] theorem eqD_int (i j : Int) : eqD (.int i) (.int j) = some (decide (i = j)) := by
  simp [eqD, cmpble, D.plain, D.py, PyData.eqv, Bool.beq_eq_decide_eq]
@[simp] theorem eqD_bl (i j : Bool) : eqD (.bl i) (.bl j) = some (i == j) := by
  simp [eqD, cmpble, D.plain, D.py, PyData.eqv]
@[simp] theorem eqD_str (i j : Str) : eqD (.str i) (.str j) = some (i == j) := by
  simp [eqD, cmpble, D.plain, D.py, PyData.eqv]
@[simp] theorem inD_one (c : Nat) (z : Str) : inD (.str ⟨#[c]⟩) (.str z) = some (decide (c ∈ z.cps.toList)) := by
  simp [inD]
/-! ### steps: Tag keeps what comes behind from being looked at too early -/
structure Tag {α : Sort _} (a : α) : Type where
  mk ::
def useT (p : Bool) (q : R) (k : D → Env → R) (_ : Tag k) : R := R.use p q k
def lookT (p : Bool) (q : R) (k : D → Env → R) (_ : Tag k) : R := R.look p q k
def bT {α : Type} (q : R) (s : α) (k : Val → Env → α) (_ : Tag k) : α := match q with
  | .ok x r => k x r
  | .stuck => s
def lT {α : Type} (q : RL) (s : α) (k : List D → Env → α) (_ : Tag k) : α := match q with
  | .ok x r => k x r
  | .stuck => s
def aT {α : Type} (q : RA) (s : α) (k : List T → Env → α) (_ : Tag k) : α := match q with
  | .ok x r => k x r
  | .stuck => s
def oT {α β : Type} (q : Option α) (s : β) (k : α → β) (_ : Tag k) : β := match q with
  | some x => k x
  | none => s
section
variable {x : Val} {r : Env} {p : Bool} {k : D → Env → R} {tg : Tag k} {t : T} {d : D} {i : Nat} {a b c : E} {α β : Type}
@[simp] theorem useT_ok : useT p (.ok x r) k tg = k x.toD (useE p x r) := rfl
@[simp] theorem lookT_ok : lookT p (.ok x r) k tg = k x.toD (lookE p x r) := rfl
@[simp] theorem bT_ok {s : α} {k : Val → Env → α} {tg : Tag k} : bT (.ok x r) s k tg = k x r := rfl
@[simp] theorem lT_ok {s : α} {ds : List D} {k : List D → Env → α} {tg : Tag k} : lT (.ok ds r) s k tg = k ds r := rfl
@[simp] theorem aT_ok {s : α} {ds : List T} {k : List T → Env → α} {tg : Tag k} : aT (.ok ds r) s k tg = k ds r := rfl
@[simp] theorem oT_some {s : β} {y : α} {k : α → β} {tg : Tag k} : oT (some y) s k tg = k y := rfl
@[simp] theorem useE_v : useE p (.v t) r = r := rfl
@[simp] theorem useE_bt : useE true (.b i (.ow d)) r = r := by simp [useE, T.soft]
@[simp] theorem useE_bf : useE false (.b i t) r = frz i r := by simp [useE]
@[simp] theorem lookE_v : lookE p (.v t) r = r := rfl
@[simp] theorem lookE_bt : lookE true (.b i t) r = r := by simp [lookE]
@[simp] theorem lookE_bf : lookE false (.b i t) r = frz i r := by simp [lookE]
@[simp] theorem toD_v : (Val.v t).toD = t.toD := rfl
@[simp] theorem toD_b : (Val.b i t).toD = t.toD := rfl
@[simp] theorem toD_fr : (T.fr d).toD = d := by simp [T.toD]
@[simp] theorem toD_ow : (T.ow d).toD = d := by simp [T.toD]
@[simp] theorem ofT_some : ofT (some t) r = .ok (.v t) r := rfl
@[simp] theorem ofD_some : ofD (some d) r = .ok (.v (.fr d)) r := rfl
@[simp] theorem F_eq : F d r = .ok (.v (.fr d)) r := rfl
@[simp] theorem ofT_ite {q : Prop} [Decidable q] {u v : Option T} : ofT (if q then u else v) r = if q then ofT u r else ofT v r := by split <;> rfl
@[simp] theorem tru_bl {b : Bool} : R.tru (.ok (.v (.fr (.bl b))) r) = some (b, r) := by simp [R.tru, truD]
@[simp] theorem tru_int {b : Int} : R.tru (.ok (.v (.fr (.int b))) r) = some (b != 0, r) := by simp [R.tru, truD]
theorem tru_ok' {y : Bool} (h : truD x.toD = some y) : R.tru (.ok x r) = some (y, lookE true x r) := R.tru_of h
@[simp] theorem ite_and {q : Prop} [Decidable q] {y : Bool} : (if q then R.ok (.v (.fr (.bl y))) r else R.ok (.v (.fr (.bl false))) r) = .ok (.v (.fr (.bl (decide q && y)))) r := by
  by_cases h : q <;> simp [h]
@[simp] theorem ite_or {q : Prop} [Decidable q] {y : Bool} : (if q then R.ok (.v (.fr (.bl true))) r else R.ok (.v (.fr (.bl y))) r) = .ok (.v (.fr (.bl (decide q || y)))) r := by
  by_cases h : q <;> simp [h]
@[simp] theorem ev_var : ev (.var i) r = match r[i]? with
    | some (some (.fr d)) => F d r
    | some (some t) => .ok (.b i t) r
    | _ => .stuck := by simp only [ev] <;> rfl
@[simp] theorem ev_cst : ev (.cst d) r = .ok (.v (.fr d)) r := by simp only [ev] <;> rfl
@[simp] theorem ev_neg : ev (.neg a) r = useT true (ev a r) (fun d r => match d with
    | .int i => F (.int (-i)) r
    | _ => .stuck) ⟨⟩ := by simp only [ev] <;> rfl
@[simp] theorem ev_bin {o : Bop} : ev (.bin o a b) r = useT b.pu (ev a r) (fun x r => useT true (ev b r) (fun y r => ofT (binD o x y) r) ⟨⟩) ⟨⟩ := by simp only [ev] <;> rfl
@[simp] theorem ev_cmp {o : Cop} : ev (.cmp o a b) r = lookT b.pu (ev a r) (fun x r => lookT true (ev b r) (fun y r => ofD ((cmpD o x y).map .bl) r) ⟨⟩) ⟨⟩ := by simp only [ev] <;> rfl
@[simp] theorem ev_chain {o u : Cop} : ev (.chain o u a b c) r = lookT b.pu (ev a r) (fun x r => lookT c.pu (ev b r) (fun y r => oT (cmpD o x y) .stuck (fun k => if k = true then lookT true (ev c r) (fun z r => ofD ((cmpD u y z).map .bl) r) ⟨⟩ else F (.bl false) r) ⟨⟩) ⟨⟩) ⟨⟩ := by
  simp only [ev]
  show R.look _ _ _ = R.look _ _ _
  congr 1
  funext x r
  show R.look _ _ _ = R.look _ _ _
  congr 1
  funext y r
  cases cmpD o x y with
  | none => rfl
  | some k => cases k <;> rfl
@[simp] theorem ev_and : ev (.and a b) r = lookT true (ev a r) (fun x r => match x with
    | .bl k => if k = true then ev b r else .ok (.v (.fr (.bl false))) r
    | _ => .stuck) ⟨⟩ := by
  simp only [ev]
  show R.look _ _ _ = R.look _ _ _
  congr 1
  funext x r
  cases x with
  | bl k => cases k <;> rfl
  | _ => rfl
@[simp] theorem ev_or : ev (.or a b) r = lookT true (ev a r) (fun x r => match x with
    | .bl k => if k = true then .ok (.v (.fr (.bl true))) r else ev b r
    | _ => .stuck) ⟨⟩ := by
  simp only [ev]
  show R.look _ _ _ = R.look _ _ _
  congr 1
  funext x r
  cases x with
  | bl k => cases k <;> rfl
  | _ => rfl
@[simp] theorem ev_not : ev (.not a) r = oT (ev a r).tru .stuck (fun q => .ok (.v (.fr (.bl (!q.1)))) q.2) ⟨⟩ := by
  simp only [ev]
  cases (ev a r).tru <;> rfl
@[simp] theorem ev_ite : ev (.ite c a b) r = oT (ev c r).tru .stuck (fun q => if q.1 = true then ev a q.2 else ev b q.2) ⟨⟩ := by
  simp only [ev]
  cases (ev c r).tru with
  | none => rfl
  | some q =>
    obtain ⟨k, r⟩ := q
    cases k <;> rfl
@[simp] theorem ev_tup {es : Es} : ev (.tup es) r = lT (evs es r) .stuck (fun ds r => if ds.length ≤ sizeLine then .ok (.v (.fr (.tup ds))) r else .stuck) ⟨⟩ := by simp only [ev]; cases evs es r <;> rfl
@[simp] theorem ev_lst {es : Es} : ev (.lst es) r = lT (evs es r) .stuck (fun ds r => if ds.length ≤ sizeLine then .ok (.v (.ow (.lst ds))) r else .stuck) ⟨⟩ := by simp only [ev]; cases evs es r <;> rfl
@[simp] theorem ev_dnew {t : Bool} : ev (.dnew t) r = .ok (.v (.ow (if t then .dT [] [] else .dK [] []))) r := by simp only [ev]
@[simp] theorem ev_tupo {as : Ar} : ev (.tupo as) r = aT (eva as r) .stuck (fun ts r => if ts.length ≤ sizeLine then .ok (.v (.nt ts)) r else .stuck) ⟨⟩ := by simp only [ev]; cases eva as r <;> rfl
def subT (q : R) (k : Nat) : R := match subO q k with
  | some q => q
  | none => q.use true fun x r => ofD (idxD x (.int k)) r
@[simp] theorem ev_sub {k : Nat} : ev (.sub a k) r = subT (ev a r) k := by simp only [ev]; rfl
@[simp] theorem subT_nt {ts : List T} {k : Nat} : subT (.ok (.b i (.nt ts)) r) k = match ts[k]? with
    | some t => .ok (brw i t) r
    | none => .stuck := rfl
@[simp] theorem subT_v {k : Nat} : subT (.ok (.v t) r) k = ofD (idxD t.toD (.int k)) r := rfl
@[simp] theorem brw_fr : brw i (.fr d) = .v (.fr d) := rfl
@[simp] theorem brw_ow : brw i (.ow d) = .b i (.ow d) := rfl
@[simp] theorem brw_nt {ts : List T} : brw i (.nt ts) = .b i (.nt ts) := rfl
@[simp] theorem toD_nt {ts : List T} : (T.nt ts).toD = .tup (T.toDs ts) := by simp [T.toD]
@[simp] theorem toDs_nil : T.toDs [] = [] := by simp [T.toDs]
@[simp] theorem toDs_cons {ts : List T} : T.toDs (t :: ts) = t.toD :: T.toDs ts := by simp [T.toDs]
@[simp] theorem ev_lend : ev (.lend a) r = bT (ev a r) .stuck (fun x _ => if a.pu && atomD x.toD then .ok (.v (.fr x.toD)) r else .stuck) ⟨⟩ := by simp only [ev]; cases ev a r <;> rfl
@[simp] theorem ev_idx : ev (.idx a b) r = useT b.pu (ev a r) (fun x r => useT true (ev b r) (fun k r => ofD (idxD x k) r) ⟨⟩) ⟨⟩ := by simp only [ev] <;> rfl
@[simp] theorem ev_sli {lo hi : Oe} : ev (.sli a lo hi) r = useT (lo.pu && hi.pu) (ev a r) (fun x r => oT (evo lo r) .stuck (fun l => oT (evo hi l.2) .stuck (fun h => ofT (sliD x l.1 h.1) h.2) ⟨⟩) ⟨⟩) ⟨⟩ := by
  simp only [ev]
  show R.use _ _ _ = R.use _ _ _
  congr 1
  funext x r
  cases evo lo r with
  | none => rfl
  | some l =>
    simp only [oT_some]
    cases evo hi l.2 <;> rfl
@[simp] theorem ev_fld {f : Nat → Option Nat} : ev (.fld a f) r = useT true (ev a r) (fun x r => ofD (fldD f x) r) ⟨⟩ := by simp only [ev] <;> rfl
@[simp] theorem ev_isi {t : Ty} : ev (.isi a t) r = lookT true (ev a r) (fun d r => ofD ((isD t d).map .bl) r) ⟨⟩ := by simp only [ev] <;> rfl
@[simp] theorem ev_bi {f : BI} {es : Es} : ev (.bi f es) r = lT (evu es r) .stuck (fun ds r => ofT (biD f ds) r) ⟨⟩ := by simp only [ev]; cases evu es r <;> rfl
@[simp] theorem ev_mt {m : MT} {es : Es} : ev (.mt m a es) r = useT es.pu (ev a r) (fun x r => lT (evu es r) .stuck (fun ds r => ofT (mtD m x ds) r) ⟨⟩) ⟨⟩ := by
  simp only [ev]
  show R.use _ _ _ = R.use _ _ _
  congr 1
@[simp] theorem ev_call {f : Fn} {as : Ar} : ev (.call f as) r = aT (eva as r) .stuck (fun ts r => oT (f.run ts) .stuck (fun q => .ok (.v q.1) (putBack as f.io q.2 r)) ⟨⟩) ⟨⟩ := by
  simp only [ev]
  cases eva as r with
  | stuck => rfl
  | ok ts r =>
    simp only [aT_ok]
    cases f.run ts <;> rfl
@[simp] theorem evs_nil : evs .nil r = .ok [] r := by simp only [evs]
@[simp] theorem evs_cons {es : Es} : evs (.cons a es) r = bT (ev a r) .stuck (fun x r => lT (evs es (useE false x r)) .stuck (fun ds r => .ok (x.toD :: ds) r) ⟨⟩) ⟨⟩ := by
  simp only [evs]
  cases ev a r with
  | stuck => rfl
  | ok x r =>
    simp only [bT_ok]
    cases evs es (useE false x r) <;> rfl
@[simp] theorem evu_nil : evu .nil r = .ok [] r := by simp only [evu]
@[simp] theorem evu_cons {es : Es} : evu (.cons a es) r = bT (ev a r) .stuck (fun x r => lT (evu es (useE es.pu x r)) .stuck (fun ds r => .ok (x.toD :: ds) r) ⟨⟩) ⟨⟩ := by
  simp only [evu]
  cases ev a r with
  | stuck => rfl
  | ok x r =>
    simp only [bT_ok]
    cases evu es (useE es.pu x r) <;> rfl
@[simp] theorem evo_no : evo .no r = some (none, r) := by simp only [evo]
@[simp] theorem evo_so : evo (.so a) r = bT (ev a r) none (fun x r => match x.toD with
    | .int i => some (some i, lookE true x r)
    | _ => none) ⟨⟩ := by simp only [evo]; cases ev a r <;> rfl
@[simp] theorem evc_no : evc .no r = some (true, r) := by simp only [evc]
@[simp] theorem evc_so : evc (.so a) r = (ev a r).tru := by simp only [evc]
@[simp] theorem eva_nil : eva .nil r = .ok [] r := by simp only [eva]
@[simp] theorem eva_ci {as : Ar} : eva (.ci a as) r = bT (ev a r) .stuck (fun x r => aT (eva as (useE false x r)) .stuck (fun ts r => .ok (.fr x.toD :: ts) r) ⟨⟩) ⟨⟩ := by
  simp only [eva]
  cases ev a r with
  | stuck => rfl
  | ok x r =>
    simp only [bT_ok]
    cases eva as (useE false x r) <;> rfl
@[simp] theorem eva_cx {as : Ar} : eva (.cx i as) r = match r[i]? with
    | some (some t) => aT (eva as (r.set i none)) .stuck (fun ts r => .ok (t :: ts) r) ⟨⟩
    | _ => .stuck := by
  simp only [eva]
  cases r[i]? with
  | none => rfl
  | some o =>
    cases o with
    | none => rfl
    | some t =>
      simp only
      cases eva as (r.set i none) <;> rfl
@[simp] theorem eva_ct {as : Ar} : eva (.ct a as) r = bT (ev a r) .stuck (fun x r => aT (eva as (useE false x r)) .stuck (fun ts r => .ok ((match x with
        | .v t => t
        | .b _ t => .fr t.toD) :: ts) r) ⟨⟩) ⟨⟩ := by
  simp only [eva]
  cases ev a r with
  | stuck => rfl
  | ok x r =>
    simp only [bT_ok]
    cases eva as (useE false x r) <;> rfl
@[simp] theorem ev_dct {ks : List Key} {vs : Es} : ev (.dct ks vs) r = lT (evs vs r) .stuck (fun ds r => if ks.Nodup ∧ ks.length = ds.length ∧ ks ≠ [] ∧ ks.length ≤ 15 then .ok (.v (.ow (.dK ks ds))) r else .stuck) ⟨⟩ := by simp only [ev]; cases evs vs r <;> rfl
def newT (o : Option (T × Env)) (k : T → Env → R) : R := match o with
  | some (.fr .non, some t :: rp) => k t rp
  | _ => .stuck
@[simp] theorem newT_ok {rp : Env} {k : T → Env → R} : newT (some (.fr .non, some t :: rp)) k = k t rp := rfl
@[simp] theorem ev_new {cc : Nat} {f : Fn} {as : Ar} : ev (.new cc f as) r = aT (eva as r) .stuck (fun ts r => newT (f.run (.ow (.obj cc []) :: ts)) fun t rp => .ok (.v t) (putBack as f.io.tail rp r)) ⟨⟩ := by
  simp only [ev]
  cases eva as r with
  | stuck => rfl
  | ok ts r => rfl
def methT (ms : Nat → Option Fn) (ts : List T) (k : Fn → R) : R := match ts with
  | t :: _ => (match t.toD with
    | .obj c _ => (match ms c with
      | some f => k f
      | none => .stuck)
    | _ => .stuck)
  | [] => .stuck
theorem methT_ok {ms : Nat → Option Fn} {t : T} {ts : List T} {c : Nat} {ds : List D} {f : Fn} {k : Fn → R} (h : t.toD = .obj c ds) (hf : ms c = some f) : methT ms (t :: ts) k = k f := by
  simp only [methT, h, hf]
@[simp] theorem methT_fr {ms : Nat → Option Fn} {ts : List T} {c : Nat} {ds : List D} {k : Fn → R} : methT ms (.fr (.obj c ds) :: ts) k = (match ms c with
    | some f => k f
    | none => .stuck) := by simp [methT]
@[simp] theorem methT_ow {ms : Nat → Option Fn} {ts : List T} {c : Nat} {ds : List D} {k : Fn → R} : methT ms (.ow (.obj c ds) :: ts) k = (match ms c with
    | some f => k f
    | none => .stuck) := by simp [methT]
@[simp] theorem ev_meth {ms : Nat → Option Fn} {as : Ar} : ev (.meth ms as) r = aT (eva as r) .stuck (fun ts r => methT ms ts fun f => oT (f.run ts) .stuck (fun q => .ok (.v q.1) (putBack as f.io q.2 r)) ⟨⟩) ⟨⟩ := by
  simp only [ev]
  cases eva as r with
  | stuck => rfl
  | ok ts r =>
    cases ts with
    | nil => rfl
    | cons t ts =>
      simp only [aT_ok, methT]
      cases t.toD with
      | obj c ds =>
        simp only
        cases ms c with
        | none => rfl
        | some f =>
          simp only
          cases f.run (t :: ts) <;> rfl
      | _ => rfl
@[simp] theorem back_ct {as : Ar} {q : Bool} {io : List Bool} {y : Option T} {ts : Env} : putBack (.ct a as) (q :: io) (y :: ts) r = putBack as io ts r := by simp only [putBack]
@[simp] theorem back_ci {as : Ar} {q : Bool} {io : List Bool} {y : Option T} {ts : Env} : putBack (.ci a as) (q :: io) (y :: ts) r = putBack as io ts r := by simp only [putBack]
@[simp] theorem back_cx {as : Ar} {q : Bool} {io : List Bool} {y : Option T} {ts : Env} : putBack (.cx i as) (q :: io) (y :: ts) r = putBack as io ts (r.set i y) := by simp only [putBack]
@[simp] theorem back_nil {io : List Bool} {ts : Env} : putBack .nil io ts r = r := by simp only [putBack]
end

/-- how a statement ends -/
structure Ks where
  N : Env → Prop
  B : Env → Prop
  Cn : Env → Prop
  P : T → Env → Prop
def WPt (o : O) (K : Ks) (_ : Tag K) : Prop := match o with
  | .nx r => K.N r | .bk r => K.B r | .ct r => K.Cn r | .rt t r => K.P t r | .stuck => False
abbrev WP (o : O) (N B Cn : Env → Prop) (P : T → Env → Prop) : Prop := WPt o ⟨N, B, Cn, P⟩ ⟨⟩
section
variable {N B Cn : Env → Prop} {P : T → Env → Prop} {r : Env}
@[simp] theorem WP_nx {K : Ks} {tg : Tag K} : WPt (.nx r) K tg = K.N r := rfl
@[simp] theorem WP_bk {K : Ks} {tg : Tag K} : WPt (.bk r) K tg = K.B r := rfl
@[simp] theorem WP_ct {K : Ks} {tg : Tag K} : WPt (.ct r) K tg = K.Cn r := rfl
@[simp] theorem WP_rt {K : Ks} {tg : Tag K} {t : T} : WPt (.rt t r) K tg = K.P t r := rfl
theorem WP.mono {o : O} {N' B' C' : Env → Prop} {P' : T → Env → Prop} (h : WP o N B Cn P) (h1 : ∀ r, N r → N' r) (h2 : ∀ r, B r → B' r) (h3 : ∀ r, Cn r → C' r) (h4 : ∀ t r, P t r → P' t r) : WP o N' B' C' P' := by
  cases o with
  | nx r => exact h1 r h
  | bk r => exact h2 r h
  | ct r => exact h3 r h
  | rt t r => exact h4 t r h
  | stuck => exact h
@[simp] theorem WP_seq {a b : S} {K : Ks} {tg : Tag K} : WPt (evS (.seq a b) r) K tg = WPt (evS a r) ⟨fun r1 => WPt (evS b r1) K ⟨⟩, K.B, K.Cn, K.P⟩ ⟨⟩ := by
  simp only [evS]
  cases evS a r <;> rfl
@[simp] theorem WP_try {a b : S} {K : Ks} {tg : Tag K} : WPt (evS (.tryE a b) r) K tg = WPt (evS a r) ⟨fun r1 => WPt (evS b r1) K ⟨⟩, K.B, K.Cn, K.P⟩ ⟨⟩ := by
  simp only [evS]
  cases evS a r <;> rfl
theorem evS_appP {i k : Nat} {e : E} {ts : List T} {ds : List D} {x : Val} {r1 : Env} (hp : e.pu = true) (h0 : r[i]? = some (some (.nt ts))) (h1 : ts[k]? = some (.ow (.lst ds))) (h2 : ev e r = .ok x r1) (h3 : (useE false x r1)[i]? = some (some (.nt ts))) (hl : ds.length < sizeLine) :
    evS (.appP i k e) r = .nx ((useE false x r1).set i (some (.nt (ts.set k (.ow (.lst (ds ++ [x.toD]))))))) := by
  simp only [evS, hp, h0, h1, h2, h3, hl, if_true]
@[simp] theorem WP_ife {c : E} {a b : S} {K : Ks} {tg : Tag K} : WPt (evS (.ife c a b) r) K tg = oT (ev c r).tru False (fun q => if q.1 = true then WPt (evS a q.2) K ⟨⟩ else WPt (evS b q.2) K ⟨⟩) ⟨⟩ := by
  simp only [evS]
  cases (ev c r).tru with
  | none => rfl
  | some q =>
    obtain ⟨k, r1⟩ := q
    cases k <;> rfl
@[simp] theorem evS_expr {e : E} : evS (.expr e) r = bT (ev e r) .stuck (fun _ r => .nx r) ⟨⟩ := by simp only [evS]; cases ev e r <;> rfl
@[simp] theorem evS_asg {tg : Tg} {e : E} : evS (.asg tg e) r = bT (ev e r) .stuck (fun x r => oT (asgE tg x r) .stuck (fun r => .nx r) ⟨⟩) ⟨⟩ := by
  simp only [evS]
  cases ev e r with
  | stuck => rfl
  | ok x r =>
    simp only [bT_ok]
    cases asgE tg x r <;> rfl
@[simp] theorem asg_name {i : Nat} {t : T} : asgE (.name i) (.v t) r = match r[i]? with
    | some _ => some (r.set i (some t))
    | none => none := by simp only [asgE] <;> rfl
@[simp] theorem asg_nameb {i j : Nat} {t : T} : asgE (.name i) (.b j t) r = some ((frz j r).set i (some (.fr t.toD))) := by simp [asgE, Tg.bind]
@[simp] theorem asg_tup {ts : List Tg} {x : Val} : asgE (.tup ts) x r = Tg.bind (.tup ts) x.toD (useE false x r) := by simp only [asgE]
@[simp] theorem evS_ret {e : E} : evS (.ret e) r = bT (ev e r) .stuck (fun x r => match x with
    | .v t => .rt t r
    | .b i t => .rt (.fr t.toD) (frz i r)) ⟨⟩ := by
  simp only [evS]
  cases ev e r with
  | stuck => rfl
  | ok x r => cases x <;> rfl
@[simp] theorem evS_retv {i : Nat} : evS (.retv i) r = match r[i]? with
    | some (some t) => .rt t (r.set i none)
    | _ => .stuck := by simp only [evS] <;> rfl
@[simp] theorem evS_retN : evS .retN r = .rt (.fr .non) r := by simp only [evS]
@[simp] theorem evS_pass : evS .pass r = .nx r := by simp only [evS]
@[simp] theorem evS_brk : evS .brk r = .bk r := by simp only [evS]
@[simp] theorem evS_cont : evS .cont r = .ct r := by simp only [evS]
theorem evS_aug {i : Nat} {o : Bop} {e : E} : evS (.aug i o e) r = match r[i]? with
    | some (some (.fr (.int a))) => (match ev e r with
      | .ok x r => (match o, x.toD with
        | .add, .int b => .nx ((useE false x r).set i (some (.fr (.int (a + b)))))
        | .sub, .int b => .nx ((useE false x r).set i (some (.fr (.int (a - b)))))
        | _, _ => .stuck)
      | .stuck => .stuck)
    | _ => .stuck := by simp only [evS] <;> rfl
theorem evS_setf {i : Nat} {f : Nat → Option Nat} {e : E} : evS (.setf i f e) r = match r[i]? with
    | some (some _) => (match ev e r with
      | .ok x r => (match (useE false x r)[i]? with
        | some (some (.ow (.obj c ds))) => (match f c with
          | some k => if k < ds.length then .nx ((useE false x r).set i (some (.ow (.obj c (ds.set k x.toD)))))
              else if k = ds.length then .nx ((useE false x r).set i (some (.ow (.obj c (ds ++ [x.toD]))))) else .stuck
          | none => .stuck)
        | _ => .stuck)
      | .stuck => .stuck)
    | _ => .stuck := by simp only [evS] <;> rfl
theorem evS_updd {i : Nat} {e : E} : evS (.updd i e) r = match r[i]? with
    | some (some (.ow (.dK _ _))) => (match ev e r with
      | .ok x r => (match (useE false x r)[i]?, x.toD with
        | some (some (.ow (.dK ks ds))), .dK ls es => if ks.length + ls.length ≤ sizeLine ∧ (ks ++ ls).Nodup ∧ ks.length = ds.length then .nx ((useE false x r).set i (some (.ow (.dK (ks ++ ls) (ds ++ es))))) else .stuck
        | _, _ => .stuck)
      | .stuck => .stuck)
    | _ => .stuck := by simp only [evS] <;> rfl
theorem evS_seti {i : Nat} {k e : E} : evS (.seti i k e) r = match r[i]? with
    | some (some _) => (match ev e r with
      | .ok x r => (match ev k (useE false x r) with
        | .ok y r => (match (useE false y r)[i]? with
          | some (some (.ow d)) => (match setD d y.toD x.toD with
            | some d => .nx ((useE false y r).set i (some (.ow d)))
            | none => .stuck)
          | _ => .stuck)
        | .stuck => .stuck)
      | .stuck => .stuck)
    | _ => .stuck := by simp only [evS] <;> rfl
theorem evS_app {i : Nat} {e : E} : evS (.app i e) r = match r[i]? with
    | some (some (.ow (.lst _))) => (match ev e r with
      | .ok x r => (match (useE false x r)[i]? with
        | some (some (.ow (.lst ds))) => if ds.length < sizeLine then .nx ((useE false x r).set i (some (.ow (.lst (ds ++ [x.toD]))))) else .stuck
        | _ => .stuck)
      | .stuck => .stuck)
    | _ => .stuck := by simp only [evS] <;> rfl
/-- a loop by its invariant -/
theorem WP_for {tg : Tg} {it : It} {b : S} {ds : List D} {hid : Option (Nat × T)} {r1 : Env} (I : Nat → Env → Prop) (h1 : evi it r = .ok ds hid r1) (h0 : I 0 (hideE hid r1)) (hf : freeE hid (tg.slots ++ b.asgs) = true)
    (step : ∀ i d r, ds[i]? = some d → I i r → ∃ r1, tg.bind d r = some r1 ∧ WP (evS b r1) (I (i + 1)) (fun r => N (showE hid r)) (I (i + 1)) P) (he : ∀ r, I ds.length r → N (showE hid r)) : WP (evS (.for tg it b) r) N B Cn P := by
  have main : ∀ (l : List D) (n : Nat) (r : Env), (∀ i d, l[i]? = some d → ds[n + i]? = some d) → n + l.length = ds.length → I n r →
      WP (forL (fun r => evS b r) tg l r) (fun r => N (showE hid r)) (fun _ => False) (fun _ => False) P := by
    intro l
    induction l with
    | nil =>
      intro n r _ hn hI
      simp only [forL]
      show N (showE hid r)
      have : n = ds.length := by simpa using hn
      rw [this] at hI
      exact he r hI
    | cons d l ih =>
      intro n r hl hn hI
      obtain ⟨r1, h1, h2⟩ := step n d r (by simpa using hl 0 d rfl) hI
      have go : ∀ r2, I (n + 1) r2 → WP (forL (fun r => evS b r) tg l r2) (fun r => N (showE hid r)) (fun _ => False) (fun _ => False) P := fun r2 hI2 =>
        ih (n + 1) r2 (fun i e hi => by rw [show n + 1 + i = n + (i + 1) by omega]; exact hl (i + 1) e (by simpa using hi)) (by rw [← hn, List.length_cons]; omega) hI2
      simp only [forL, h1]
      cases hb : evS b r1 with
      | nx r2 => rw [hb] at h2; exact go r2 h2
      | ct r2 => rw [hb] at h2; exact go r2 h2
      | bk r2 => rw [hb] at h2; exact h2
      | rt t r2 => rw [hb] at h2; exact h2
      | stuck => rw [hb] at h2; exact h2
  have := main ds 0 (hideE hid r1) (fun i d h => by simpa using h) (by simp) h0
  simp only [evS, h1]
  cases hfl : forL (fun r => evS b r) tg ds (hideE hid r1) with
  | nx r2 =>
    rw [hfl] at this
    simp only [hf]
    exact this
  | ct r2 => rw [hfl] at this; exact this.elim
  | bk r2 => rw [hfl] at this; exact this.elim
  | rt t r2 => rw [hfl] at this; exact this
  | stuck => rw [hfl] at this; exact this
/-- a while by its invariant and measure -/
theorem WP_whl {n : Nat} {c : E} {b : S} (I : Nat → Env → Prop) {m : Nat} (hm : m < n) (h0 : I m r)
    (step : ∀ m r, I m r → match (ev c r).tru with
      | some (k, r1) => if k = true then WP (evS b r1) (fun r => ∃ m', m' < m ∧ I m' r) N (fun r => ∃ m', m' < m ∧ I m' r) P else N r1
      | none => False) : WP (evS (.whl n c b) r) N B Cn P := by
  have main : ∀ (n m : Nat) (r : Env), m < n → I m r → WP (whlL (fun r => (ev c r).tru) (fun r => evS b r) n r) N (fun _ => False) (fun _ => False) P := by
    intro n
    induction n with
    | zero => intro m r h; omega
    | succ n ih =>
      intro m r hm hI
      have s := step m r hI
      simp only [whlL]
      cases ht : (ev c r).tru with
      | none => rw [ht] at s; exact s.elim
      | some q =>
        obtain ⟨k, r1⟩ := q
        rw [ht] at s
        cases k with
        | false => exact s
        | true =>
          simp only [if_true] at s
          have go : ∀ r2, (∃ m', m' < m ∧ I m' r2) → WP (whlL (fun r => (ev c r).tru) (fun r => evS b r) n r2) N (fun _ => False) (fun _ => False) P := fun r2 ⟨m', h1, h2⟩ => ih m' r2 (by omega) h2
          simp only
          cases hb : evS b r1 with
          | nx r2 => rw [hb] at s; exact go r2 s
          | ct r2 => rw [hb] at s; exact go r2 s
          | bk r2 => rw [hb] at s; exact s
          | rt t r2 => rw [hb] at s; exact s
          | stuck => rw [hb] at s; exact s
  have := main n m r hm h0
  simp only [evS]
  cases hfl : whlL (fun r => (ev c r).tru) (fun r => evS b r) n r with
  | nx r2 => rw [hfl] at this; exact this
  | ct r2 => rw [hfl] at this; exact this.elim
  | bk r2 => rw [hfl] at this; exact this.elim
  | rt t r2 => rw [hfl] at this; exact this
  | stuck => rw [hfl] at this; exact this
end
/-- a def's run, by its body -/
theorem run_by {n : Nat} {io : List Bool} {b : S} {ts : List T} {Q : T → Env → Prop} (hl : ts.length = io.length) (h : WP (evS b (ts.map some ++ List.replicate (n - io.length) none)) (fun r => Q (.fr .non) (r.take io.length)) (fun _ => False) (fun _ => False) fun t r => Q t (r.take io.length)) :
    ∃ t rp, (mkFn n io b).run ts = some (t, rp) ∧ Q t rp := by
  simp only [mkFn]
  rw [if_pos hl]
  cases he : evS b (ts.map some ++ List.replicate (n - io.length) none) with
  | nx r => rw [he] at h; exact ⟨_, _, rfl, h⟩
  | rt t r => rw [he] at h; exact ⟨_, _, rfl, h⟩
  | bk r => rw [he] at h; exact h.elim
  | ct r => rw [he] at h; exact h.elim
  | stuck => rw [he] at h; exact h.elim
theorem ev_comp {e : E} {tg : Tg} {it : It} {cd : Oe} {r r0 r1 : Env} {ds out : List D} {hid : Option (Nat × T)} (h1 : evi it r = .ok ds hid r0) (hs : stillE (hideE hid r0) tg.slots = true)
    (h2 : compL (fun r => evc cd r) (fun r => ev e r) tg ds (wipeE tg.slots (hideE hid r0)) [] = .ok out r1) : ev (.comp e tg it cd) r = .ok (.v (.ow (.lst out))) (showE hid (backE (hideE hid r0) tg.slots r1)) := by
  simp only [ev, h1, hs, if_true, h2]
end FJ

namespace FL
open PySem L2 FJ
def top (i : Nat) : Stmt := PySem.Challenge.pw_farjump_k02_rows_told.main.body.getD i (.Pass ⟨0, 0, 0, 0⟩)
def inCls (s : Stmt) (j : Nat) : Stmt := match s with
  | .ClassDef (body := b) .. => b.getD j (.Pass ⟨0, 0, 0, 0⟩)
  | s => s
def CN : List Str := ["Row", "MarkRow", "CodeRow", "SetRow", "AddRow", "TakeRow", "SayRow", "AskRow", "AimRow", "JumpRow", "JumpIfRow", "CallRow", "LoadRow", "JumpByRow", "AlikeRow", "BackRow", "StopRow", "DataRow", "NumbersRow", "TableRow"]
def CF : List (List Str) := [["told"], ["told"], ["told"], ["told"], ["told"], ["told"], ["told"], ["told"], ["told"], ["told"], ["told"], ["told"], ["told"], ["told"], ["told"], ["told"], ["told"], ["told"], ["told"], ["told"]]
def flT (m : Str) (c : Nat) : Option Nat := slotOf m (CF.getD c [])
/-! ### is_word -/
abbrev s_is_word : Stmt := top 4
def b_is_word : S :=
  (.seq (.ife (.or (.not (.isi (.var 0) .str)) (.not (.chain .le .le (.cst (.int 1)) (.bi .len (.cons (.var 0) .nil)) (.cst (.int 8)))))
  (.ret (.cst (.bl false)))
  .pass)
  (.ret (.bi .all (.cons (.comp (.cmp .inn (.var 1) (.cst (.str "abcdefghijklmnopqrstuvwxyz"))) (.name 1) (.lst (.var 0)) .no) .nil))))
def F_is_word : Fn := mkFn 2 [false] b_is_word
@[simp] theorem io_is_word : F_is_word.io = [false] := rfl
def t_is_word : List (Str × GI) := [("all", .blt), ("SMALL", .con (.str "abcdefghijklmnopqrstuvwxyz")), ("len", .blt), ("MOST_LETTERS", .con (.int 8)), ("isinstance", .blt), ("str", .blt)]
def m_is_word : MTab := []
def c_is_word : Cc := ⟨["thing", "sign"], defScope s_is_word, fun _ => true, (fun x => t_is_word.lookup x), 1, [], [], flT, msOf m_is_word, []⟩
theorem k_is_word : css 4194304 c_is_word (defBody s_is_word) = some b_is_word := by kernel_rfl
theorem sc_is_word : FnScope c_is_word.N ["thing"] c_is_word.sc := ⟨rfl, rfl, rfl, by decide +kernel, rfl, by decide +kernel, by decide +kernel⟩
/-! ### is_box -/
abbrev s_is_box : Stmt := top 11
def b_is_box : S :=
  (.ret (.and (.isi (.var 0) .int) (.and (.not (.isi (.var 0) .bool)) (.chain .le .lt (.cst (.int 0)) (.var 0) (.cst (.int 4))))))
def F_is_box : Fn := mkFn 1 [false] b_is_box
@[simp] theorem io_is_box : F_is_box.io = [false] := rfl
def t_is_box : List (Str × GI) := [("BOXES", .con (.int 4)), ("isinstance", .blt), ("bool", .blt), ("int", .blt)]
def m_is_box : MTab := []
def c_is_box : Cc := ⟨["thing"], defScope s_is_box, fun _ => true, (fun x => t_is_box.lookup x), 1, [], [], flT, msOf m_is_box, []⟩
theorem k_is_box : css 4194304 c_is_box (defBody s_is_box) = some b_is_box := by kernel_rfl
theorem sc_is_box : FnScope c_is_box.N ["thing"] c_is_box.sc := ⟨rfl, rfl, rfl, by decide +kernel, rfl, by decide +kernel, by decide +kernel⟩
/-! ### is_plain -/
abbrev s_is_plain : Stmt := top 12
def b_is_plain : S :=
  (.ret (.and (.isi (.var 0) .int) (.and (.not (.isi (.var 0) .bool)) (.chain .le .le (.cst (.int (-2147483648))) (.var 0) (.cst (.int 2147483647))))))
def F_is_plain : Fn := mkFn 1 [false] b_is_plain
@[simp] theorem io_is_plain : F_is_plain.io = [false] := rfl
def t_is_plain : List (Str × GI) := [("LEAST", .con (.int (-2147483648))), ("GREATEST", .con (.int 2147483647)), ("isinstance", .blt), ("bool", .blt), ("int", .blt)]
def m_is_plain : MTab := []
def c_is_plain : Cc := ⟨["thing"], defScope s_is_plain, fun _ => true, (fun x => t_is_plain.lookup x), 1, [], [], flT, msOf m_is_plain, []⟩
theorem k_is_plain : css 4194304 c_is_plain (defBody s_is_plain) = some b_is_plain := by kernel_rfl
theorem sc_is_plain : FnScope c_is_plain.N ["thing"] c_is_plain.sc := ⟨rfl, rfl, rfl, by decide +kernel, rfl, by decide +kernel, by decide +kernel⟩
/-! ### Row____init__ -/
abbrev s_Row____init__ : Stmt := inCls (top 13) 0
def b_Row____init__ : S :=
  (.setf 0 (flT "told") (.var 1))
def F_Row____init__ : Fn := mkFn 2 [true, false] b_Row____init__
@[simp] theorem io_Row____init__ : F_Row____init__.io = [true, false] := rfl
def t_Row____init__ : List (Str × GI) := []
def m_Row____init__ : MTab := []
def c_Row____init__ : Cc := ⟨["self", "told"], defScope s_Row____init__, fun _ => true, (fun x => t_Row____init__.lookup x), 2, [], [], flT, msOf m_Row____init__, []⟩
theorem k_Row____init__ : css 4194304 c_Row____init__ (defBody s_Row____init__) = some b_Row____init__ := by kernel_rfl
theorem sc_Row____init__ : FnScope c_Row____init__.N ["self", "told"] c_Row____init__.sc := ⟨rfl, rfl, rfl, by decide +kernel, rfl, by decide +kernel, by decide +kernel⟩
/-! ### with_boxes -/
abbrev s_with_boxes : Stmt := top 33
def b_with_boxes : S :=
  (.seq (.ife (.and (.cmp .eq (.bi .len (.cons (.var 0) .nil)) (.cst (.int 3))) (.and (.call F_is_box (.ci (.idx (.var 0) (.cst (.int 1))) .nil)) (.call F_is_box (.ci (.idx (.var 0) (.cst (.int 2))) .nil))))
  (.seq (.ife (.cmp .eq (.idx (.var 0) (.cst (.int 0))) (.cst (.str "add")))
  (.ret (.new 4 F_Row____init__ (.ci (.var 0) .nil)))
  .pass)
  (.ife (.cmp .eq (.idx (.var 0) (.cst (.int 0))) (.cst (.str "take")))
  (.ret (.new 5 F_Row____init__ (.ci (.var 0) .nil)))
  .pass))
  .pass)
  (.seq (.ife (.and (.cmp .eq (.bi .len (.cons (.var 0) .nil)) (.cst (.int 2))) (.call F_is_box (.ci (.idx (.var 0) (.cst (.int 1))) .nil)))
  (.seq (.ife (.cmp .eq (.idx (.var 0) (.cst (.int 0))) (.cst (.str "say")))
  (.ret (.new 6 F_Row____init__ (.ci (.var 0) .nil)))
  .pass)
  (.ife (.cmp .eq (.idx (.var 0) (.cst (.int 0))) (.cst (.str "ask")))
  (.ret (.new 7 F_Row____init__ (.ci (.var 0) .nil)))
  .pass))
  .pass)
  (.seq (.ife (.cmp .eq (.var 0) (.tup (.cons (.cst (.str "back")) .nil)))
  (.ret (.new 15 F_Row____init__ (.ci (.var 0) .nil)))
  .pass)
  (.seq (.ife (.cmp .eq (.var 0) (.tup (.cons (.cst (.str "stop")) .nil)))
  (.ret (.new 16 F_Row____init__ (.ci (.var 0) .nil)))
  .pass)
  (.ret (.cst .non))))))
def F_with_boxes : Fn := mkFn 1 [false] b_with_boxes
@[simp] theorem io_with_boxes : F_with_boxes.io = [false] := rfl
def t_with_boxes : List (Str × GI) := [("StopRow", .cls 16 (some F_Row____init__) none), ("BackRow", .cls 15 (some F_Row____init__) none), ("is_box", .fn F_is_box), ("len", .blt), ("AskRow", .cls 7 (some F_Row____init__) none), ("SayRow", .cls 6 (some F_Row____init__) none), ("TakeRow", .cls 5 (some F_Row____init__) none), ("AddRow", .cls 4 (some F_Row____init__) none)]
def m_with_boxes : MTab := []
def c_with_boxes : Cc := ⟨["told"], defScope s_with_boxes, fun _ => true, (fun x => t_with_boxes.lookup x), 1, [], [], flT, msOf m_with_boxes, []⟩
theorem k_with_boxes : css 4194304 c_with_boxes (defBody s_with_boxes) = some b_with_boxes := by kernel_rfl
theorem sc_with_boxes : FnScope c_with_boxes.N ["told"] c_with_boxes.sc := ⟨rfl, rfl, rfl, by decide +kernel, rfl, by decide +kernel, by decide +kernel⟩
/-! ### with_aim -/
abbrev s_with_aim : Stmt := top 34
def b_with_aim : S :=
  (.seq (.ife (.or (.not (.call F_is_word (.ci (.idx (.var 0) (.neg (.cst (.int 1)))) .nil))) (.not (.bi .all (.cons (.comp (.call F_is_box (.ci (.var 1) .nil)) (.name 1) (.lst (.sli (.var 0) (.so (.cst (.int 1))) (.so (.neg (.cst (.int 1)))))) .no) .nil))))
  (.ret (.cst .non))
  .pass)
  (.seq (.ife (.and (.cmp .eq (.idx (.var 0) (.cst (.int 0))) (.cst (.str "jump"))) (.cmp .eq (.bi .len (.cons (.var 0) .nil)) (.cst (.int 2))))
  (.ret (.new 9 F_Row____init__ (.ci (.var 0) .nil)))
  .pass)
  (.seq (.ife (.and (.cmp .eq (.idx (.var 0) (.cst (.int 0))) (.cst (.str "call"))) (.cmp .eq (.bi .len (.cons (.var 0) .nil)) (.cst (.int 2))))
  (.ret (.new 11 F_Row____init__ (.ci (.var 0) .nil)))
  .pass)
  (.seq (.ife (.and (.cmp .eq (.idx (.var 0) (.cst (.int 0))) (.cst (.str "jumpif"))) (.cmp .eq (.bi .len (.cons (.var 0) .nil)) (.cst (.int 3))))
  (.ret (.new 10 F_Row____init__ (.ci (.var 0) .nil)))
  .pass)
  (.seq (.ife (.and (.cmp .eq (.idx (.var 0) (.cst (.int 0))) (.cst (.str "jumpby"))) (.cmp .eq (.bi .len (.cons (.var 0) .nil)) (.cst (.int 3))))
  (.ret (.new 13 F_Row____init__ (.ci (.var 0) .nil)))
  .pass)
  (.seq (.ife (.and (.cmp .eq (.idx (.var 0) (.cst (.int 0))) (.cst (.str "load"))) (.cmp .eq (.bi .len (.cons (.var 0) .nil)) (.cst (.int 4))))
  (.ret (.new 12 F_Row____init__ (.ci (.var 0) .nil)))
  .pass)
  (.ret (.cst .non))))))))
def F_with_aim : Fn := mkFn 2 [false] b_with_aim
@[simp] theorem io_with_aim : F_with_aim.io = [false] := rfl
def t_with_aim : List (Str × GI) := [("len", .blt), ("LoadRow", .cls 12 (some F_Row____init__) none), ("JumpByRow", .cls 13 (some F_Row____init__) none), ("JumpIfRow", .cls 10 (some F_Row____init__) none), ("CallRow", .cls 11 (some F_Row____init__) none), ("JumpRow", .cls 9 (some F_Row____init__) none), ("all", .blt), ("is_box", .fn F_is_box), ("is_word", .fn F_is_word)]
def m_with_aim : MTab := []
def c_with_aim : Cc := ⟨["told", "part"], defScope s_with_aim, fun _ => true, (fun x => t_with_aim.lookup x), 1, [], [], flT, msOf m_with_aim, []⟩
theorem k_with_aim : css 4194304 c_with_aim (defBody s_with_aim) = some b_with_aim := by kernel_rfl
theorem sc_with_aim : FnScope c_with_aim.N ["told"] c_with_aim.sc := ⟨rfl, rfl, rfl, by decide +kernel, rfl, by decide +kernel, by decide +kernel⟩
/-! ### with_list -/
abbrev s_with_list : Stmt := top 35
def b_with_list : S :=
  (.seq (.ife (.lend (.or (.cmp .ne (.bi .len (.cons (.var 0) .nil)) (.cst (.int 2))) (.or (.not (.isi (.sub (.var 0) 1) .list)) (.not (.chain .le .le (.cst (.int 1)) (.bi .len (.cons (.sub (.var 0) 1) .nil)) (.cst (.int 60)))))))
  (.ret (.cst .non))
  .pass)
  (.seq (.ife (.lend (.and (.cmp .eq (.sub (.var 0) 0) (.cst (.str "numbers"))) (.bi .all (.cons (.comp (.call F_is_plain (.ci (.var 1) .nil)) (.name 1) (.lstf (.sub (.var 0) 1)) .no) .nil))))
  (.ret (.new 18 F_Row____init__ (.ci (.tup (.cons (.sub (.var 0) 0) (.cons (.bi .list (.cons (.sub (.var 0) 1) .nil)) .nil))) .nil)))
  .pass)
  (.seq (.ife (.lend (.and (.cmp .eq (.sub (.var 0) 0) (.cst (.str "table"))) (.bi .all (.cons (.comp (.call F_is_word (.ci (.var 2) .nil)) (.name 2) (.lstf (.sub (.var 0) 1)) .no) .nil))))
  (.ret (.new 19 F_Row____init__ (.ci (.tup (.cons (.sub (.var 0) 0) (.cons (.bi .list (.cons (.sub (.var 0) 1) .nil)) .nil))) .nil)))
  .pass)
  (.ret (.cst .non)))))
def F_with_list : Fn := mkFn 3 [true] b_with_list
@[simp] theorem io_with_list : F_with_list.io = [true] := rfl
def t_with_list : List (Str × GI) := [("all", .blt), ("is_word", .fn F_is_word), ("TableRow", .cls 19 (some F_Row____init__) none), ("list", .blt), ("is_plain", .fn F_is_plain), ("NumbersRow", .cls 18 (some F_Row____init__) none), ("len", .blt), ("MOST_DATA", .con (.int 60)), ("isinstance", .blt)]
def m_with_list : MTab := []
def c_with_list : Cc := ⟨["told", "number", "name"], defScope s_with_list, fun _ => true, (fun x => t_with_list.lookup x), 1, [(228, 61), (228, 7), (229, 39), (229, 25), (226, 68), (226, 7), (227, 41), (227, 27), (224, 72), (224, 40)], [], flT, msOf m_with_list, [(228, 7), (226, 7), (224, 7)]⟩
theorem k_with_list : css 4194304 c_with_list (defBody s_with_list) = some b_with_list := by kernel_rfl
theorem sc_with_list : FnScope c_with_list.N ["told"] c_with_list.sc := ⟨rfl, rfl, rfl, by decide +kernel, rfl, by decide +kernel, by decide +kernel⟩
/-! ### row_of -/
abbrev s_row_of : Stmt := top 36
def b_row_of : S :=
  (.seq (.ife (.lend (.or (.not (.isi (.var 0) .tuple)) (.or (.cmp .eq (.var 0) (.tup .nil)) (.not (.isi (.sub (.var 0) 0) .str)))))
  (.ret (.cst .non))
  .pass)
  (.seq (.ife (.lend (.cmp .eq (.sub (.var 0) 0) (.cst (.str "mark"))))
  (.seq (.ife (.lend (.and (.cmp .eq (.bi .len (.cons (.var 0) .nil)) (.cst (.int 3))) (.and (.call F_is_word (.ci (.sub (.var 0) 1) .nil)) (.isi (.sub (.var 0) 2) .bool))))
  (.ret (.new 1 F_Row____init__ (.ci (.var 0) .nil)))
  .pass)
  (.ret (.cst .non)))
  .pass)
  (.seq (.ife (.lend (.cmp .eq (.sub (.var 0) 0) (.cst (.str "set"))))
  (.seq (.ife (.lend (.and (.cmp .eq (.bi .len (.cons (.var 0) .nil)) (.cst (.int 3))) (.and (.call F_is_box (.ci (.sub (.var 0) 1) .nil)) (.call F_is_plain (.ci (.sub (.var 0) 2) .nil)))))
  (.ret (.new 3 F_Row____init__ (.ci (.var 0) .nil)))
  .pass)
  (.ret (.cst .non)))
  .pass)
  (.seq (.ife (.lend (.cmp .eq (.sub (.var 0) 0) (.cst (.str "alike"))))
  (.seq (.ife (.lend (.and (.cmp .eq (.bi .len (.cons (.var 0) .nil)) (.cst (.int 4))) (.and (.call F_is_box (.ci (.sub (.var 0) 1) .nil)) (.and (.call F_is_word (.ci (.sub (.var 0) 2) .nil)) (.call F_is_word (.ci (.sub (.var 0) 3) .nil))))))
  (.ret (.new 14 F_Row____init__ (.ci (.var 0) .nil)))
  .pass)
  (.ret (.cst .non)))
  .pass)
  (.seq (.ife (.lend (.cmp .inn (.sub (.var 0) 0) (.tup (.cons (.cst (.str "numbers")) (.cons (.cst (.str "table")) .nil)))))
  (.ret (.call F_with_list (.cx 0 .nil)))
  .pass)
  (.seq (.ife (.lend (.cmp .inn (.sub (.var 0) 0) (.tup (.cons (.cst (.str "jump")) (.cons (.cst (.str "call")) (.cons (.cst (.str "jumpif")) (.cons (.cst (.str "jumpby")) (.cons (.cst (.str "load")) .nil))))))))
  (.ret (.call F_with_aim (.ci (.var 0) .nil)))
  .pass)
  (.ret (.call F_with_boxes (.ci (.var 0) .nil)))))))))
def F_row_of : Fn := mkFn 1 [true] b_row_of
@[simp] theorem io_row_of : F_row_of.io = [true] := rfl
def t_row_of : List (Str × GI) := [("with_boxes", .fn F_with_boxes), ("with_aim", .fn F_with_aim), ("with_list", .fn F_with_list), ("is_word", .fn F_is_word), ("is_box", .fn F_is_box), ("len", .blt), ("AlikeRow", .cls 14 (some F_Row____init__) none), ("is_plain", .fn F_is_plain), ("SetRow", .cls 3 (some F_Row____init__) none), ("isinstance", .blt), ("bool", .blt), ("MarkRow", .cls 1 (some F_Row____init__) none), ("str", .blt), ("tuple", .blt)]
def m_row_of : MTab := []
def c_row_of : Cc := ⟨["thing"], defScope s_row_of, fun _ => true, (fun x => t_row_of.lookup x), 1, [(248, 7), (246, 7), (242, 7), (243, 82), (243, 60), (243, 38), (238, 7), (239, 61), (239, 38), (234, 7), (235, 64), (235, 39), (232, 70)], [], flT, msOf m_row_of, [(248, 7), (246, 7), (242, 7), (243, 11), (238, 7), (239, 11), (234, 7), (235, 11), (232, 7)]⟩
theorem k_row_of : css 4194304 c_row_of (defBody s_row_of) = some b_row_of := by kernel_rfl
theorem sc_row_of : FnScope c_row_of.N ["thing"] c_row_of.sc := ⟨rfl, rfl, rfl, by decide +kernel, rfl, by decide +kernel, by decide +kernel⟩
/-! ### Row__lengths -/
abbrev s_Row__lengths : Stmt := inCls (top 13) 5
def b_Row__lengths : S :=
  (.ret (.tup (.cons (.cst (.int 0)) .nil)))
def F_Row__lengths : Fn := mkFn 1 [false] b_Row__lengths
@[simp] theorem io_Row__lengths : F_Row__lengths.io = [false] := rfl
def t_Row__lengths : List (Str × GI) := []
def m_Row__lengths : MTab := []
def c_Row__lengths : Cc := ⟨["self"], defScope s_Row__lengths, fun _ => true, (fun x => t_Row__lengths.lookup x), 1, [], [], flT, msOf m_Row__lengths, []⟩
theorem k_Row__lengths : css 4194304 c_Row__lengths (defBody s_Row__lengths) = some b_Row__lengths := by kernel_rfl
theorem sc_Row__lengths : FnScope c_Row__lengths.N ["self"] c_Row__lengths.sc := ⟨rfl, rfl, rfl, by decide +kernel, rfl, by decide +kernel, by decide +kernel⟩
/-! ### CodeRow__lengths -/
abbrev s_CodeRow__lengths : Stmt := inCls (top 15) 1
def b_CodeRow__lengths : S :=
  (.ret (.tup (.cons (.cst (.int 1)) .nil)))
def F_CodeRow__lengths : Fn := mkFn 1 [false] b_CodeRow__lengths
@[simp] theorem io_CodeRow__lengths : F_CodeRow__lengths.io = [false] := rfl
def t_CodeRow__lengths : List (Str × GI) := []
def m_CodeRow__lengths : MTab := []
def c_CodeRow__lengths : Cc := ⟨["self"], defScope s_CodeRow__lengths, fun _ => true, (fun x => t_CodeRow__lengths.lookup x), 1, [], [], flT, msOf m_CodeRow__lengths, []⟩
theorem k_CodeRow__lengths : css 4194304 c_CodeRow__lengths (defBody s_CodeRow__lengths) = some b_CodeRow__lengths := by kernel_rfl
theorem sc_CodeRow__lengths : FnScope c_CodeRow__lengths.N ["self"] c_CodeRow__lengths.sc := ⟨rfl, rfl, rfl, by decide +kernel, rfl, by decide +kernel, by decide +kernel⟩
/-! ### SetRow__lengths -/
abbrev s_SetRow__lengths : Stmt := inCls (top 16) 0
def b_SetRow__lengths : S :=
  (.ret (.tup (.cons (.cst (.int 5)) .nil)))
def F_SetRow__lengths : Fn := mkFn 1 [false] b_SetRow__lengths
@[simp] theorem io_SetRow__lengths : F_SetRow__lengths.io = [false] := rfl
def t_SetRow__lengths : List (Str × GI) := []
def m_SetRow__lengths : MTab := []
def c_SetRow__lengths : Cc := ⟨["self"], defScope s_SetRow__lengths, fun _ => true, (fun x => t_SetRow__lengths.lookup x), 1, [], [], flT, msOf m_SetRow__lengths, []⟩
theorem k_SetRow__lengths : css 4194304 c_SetRow__lengths (defBody s_SetRow__lengths) = some b_SetRow__lengths := by kernel_rfl
theorem sc_SetRow__lengths : FnScope c_SetRow__lengths.N ["self"] c_SetRow__lengths.sc := ⟨rfl, rfl, rfl, by decide +kernel, rfl, by decide +kernel, by decide +kernel⟩
/-! ### AimRow__lengths -/
abbrev s_AimRow__lengths : Stmt := inCls (top 21) 2
def b_AimRow__lengths : S :=
  (.ret (.tup (.cons (.cst (.int 2)) (.cons (.cst (.int 3)) .nil))))
def F_AimRow__lengths : Fn := mkFn 1 [false] b_AimRow__lengths
@[simp] theorem io_AimRow__lengths : F_AimRow__lengths.io = [false] := rfl
def t_AimRow__lengths : List (Str × GI) := []
def m_AimRow__lengths : MTab := []
def c_AimRow__lengths : Cc := ⟨["self"], defScope s_AimRow__lengths, fun _ => true, (fun x => t_AimRow__lengths.lookup x), 1, [], [], flT, msOf m_AimRow__lengths, []⟩
theorem k_AimRow__lengths : css 4194304 c_AimRow__lengths (defBody s_AimRow__lengths) = some b_AimRow__lengths := by kernel_rfl
theorem sc_AimRow__lengths : FnScope c_AimRow__lengths.N ["self"] c_AimRow__lengths.sc := ⟨rfl, rfl, rfl, by decide +kernel, rfl, by decide +kernel, by decide +kernel⟩
/-! ### AlikeRow__lengths -/
abbrev s_AlikeRow__lengths : Stmt := inCls (top 27) 2
def b_AlikeRow__lengths : S :=
  (.ret (.tup (.cons (.cst (.int 5)) .nil)))
def F_AlikeRow__lengths : Fn := mkFn 1 [false] b_AlikeRow__lengths
@[simp] theorem io_AlikeRow__lengths : F_AlikeRow__lengths.io = [false] := rfl
def t_AlikeRow__lengths : List (Str × GI) := []
def m_AlikeRow__lengths : MTab := []
def c_AlikeRow__lengths : Cc := ⟨["self"], defScope s_AlikeRow__lengths, fun _ => true, (fun x => t_AlikeRow__lengths.lookup x), 1, [], [], flT, msOf m_AlikeRow__lengths, []⟩
theorem k_AlikeRow__lengths : css 4194304 c_AlikeRow__lengths (defBody s_AlikeRow__lengths) = some b_AlikeRow__lengths := by kernel_rfl
theorem sc_AlikeRow__lengths : FnScope c_AlikeRow__lengths.N ["self"] c_AlikeRow__lengths.sc := ⟨rfl, rfl, rfl, by decide +kernel, rfl, by decide +kernel, by decide +kernel⟩
/-! ### NumbersRow__lengths -/
abbrev s_NumbersRow__lengths : Stmt := inCls (top 31) 0
def b_NumbersRow__lengths : S :=
  (.ret (.tup (.cons (.bin .add (.cst (.int 2)) (.bin .mul (.cst (.int 4)) (.bi .len (.cons (.idx (.fld (.var 0) (flT "told")) (.cst (.int 1))) .nil)))) .nil)))
def F_NumbersRow__lengths : Fn := mkFn 1 [false] b_NumbersRow__lengths
@[simp] theorem io_NumbersRow__lengths : F_NumbersRow__lengths.io = [false] := rfl
def t_NumbersRow__lengths : List (Str × GI) := [("len", .blt)]
def m_NumbersRow__lengths : MTab := []
def c_NumbersRow__lengths : Cc := ⟨["self"], defScope s_NumbersRow__lengths, fun _ => true, (fun x => t_NumbersRow__lengths.lookup x), 1, [], [], flT, msOf m_NumbersRow__lengths, []⟩
theorem k_NumbersRow__lengths : css 4194304 c_NumbersRow__lengths (defBody s_NumbersRow__lengths) = some b_NumbersRow__lengths := by kernel_rfl
theorem sc_NumbersRow__lengths : FnScope c_NumbersRow__lengths.N ["self"] c_NumbersRow__lengths.sc := ⟨rfl, rfl, rfl, by decide +kernel, rfl, by decide +kernel, by decide +kernel⟩
/-! ### TableRow__lengths -/
abbrev s_TableRow__lengths : Stmt := inCls (top 32) 2
def b_TableRow__lengths : S :=
  (.ret (.tup (.cons (.bin .add (.cst (.int 2)) (.bin .mul (.cst (.int 2)) (.bi .len (.cons (.idx (.fld (.var 0) (flT "told")) (.cst (.int 1))) .nil)))) .nil)))
def F_TableRow__lengths : Fn := mkFn 1 [false] b_TableRow__lengths
@[simp] theorem io_TableRow__lengths : F_TableRow__lengths.io = [false] := rfl
def t_TableRow__lengths : List (Str × GI) := [("len", .blt)]
def m_TableRow__lengths : MTab := []
def c_TableRow__lengths : Cc := ⟨["self"], defScope s_TableRow__lengths, fun _ => true, (fun x => t_TableRow__lengths.lookup x), 1, [], [], flT, msOf m_TableRow__lengths, []⟩
theorem k_TableRow__lengths : css 4194304 c_TableRow__lengths (defBody s_TableRow__lengths) = some b_TableRow__lengths := by kernel_rfl
theorem sc_TableRow__lengths : FnScope c_TableRow__lengths.N ["self"] c_TableRow__lengths.sc := ⟨rfl, rfl, rfl, by decide +kernel, rfl, by decide +kernel, by decide +kernel⟩
def mt_lengths : List (Nat × Fn) := [(0, F_Row__lengths), (1, F_Row__lengths), (2, F_CodeRow__lengths), (3, F_SetRow__lengths), (4, F_CodeRow__lengths), (5, F_CodeRow__lengths), (6, F_CodeRow__lengths), (7, F_CodeRow__lengths), (8, F_AimRow__lengths), (9, F_AimRow__lengths), (10, F_AimRow__lengths), (11, F_AimRow__lengths), (12, F_AimRow__lengths), (13, F_AimRow__lengths), (14, F_AlikeRow__lengths), (15, F_CodeRow__lengths), (16, F_CodeRow__lengths), (17, F_Row__lengths), (18, F_NumbersRow__lengths), (19, F_TableRow__lengths)]
/-! ### lengths -/
abbrev s_lengths : Stmt := top 37
def b_lengths : S :=
  (.ret (.meth (fun q => mt_lengths.lookup q) (.ci (.call F_row_of (.ct (.var 0) .nil)) .nil)))
def F_lengths : Fn := mkFn 1 [false] b_lengths
@[simp] theorem io_lengths : F_lengths.io = [false] := rfl
def t_lengths : List (Str × GI) := [("row_of", .fn F_row_of)]
def m_lengths : MTab := [("lengths", [false], mt_lengths)]
def c_lengths : Cc := ⟨["row"], defScope s_lengths, fun _ => true, (fun x => t_lengths.lookup x), 1, [(252, 18)], [], flT, msOf m_lengths, []⟩
theorem k_lengths : css 4194304 c_lengths (defBody s_lengths) = some b_lengths := by kernel_rfl
theorem sc_lengths : FnScope c_lengths.N ["row"] c_lengths.sc := ⟨rfl, rfl, rfl, by decide +kernel, rfl, by decide +kernel, by decide +kernel⟩
/-! ### Row__asked -/
abbrev s_Row__asked : Stmt := inCls (top 13) 2
def b_Row__asked : S :=
  (.ret (.lst .nil))
def F_Row__asked : Fn := mkFn 1 [false] b_Row__asked
@[simp] theorem io_Row__asked : F_Row__asked.io = [false] := rfl
def t_Row__asked : List (Str × GI) := []
def m_Row__asked : MTab := []
def c_Row__asked : Cc := ⟨["self"], defScope s_Row__asked, fun _ => true, (fun x => t_Row__asked.lookup x), 1, [], [], flT, msOf m_Row__asked, []⟩
theorem k_Row__asked : css 4194304 c_Row__asked (defBody s_Row__asked) = some b_Row__asked := by kernel_rfl
theorem sc_Row__asked : FnScope c_Row__asked.N ["self"] c_Row__asked.sc := ⟨rfl, rfl, rfl, by decide +kernel, rfl, by decide +kernel, by decide +kernel⟩
/-! ### AimRow__asked -/
abbrev s_AimRow__asked : Stmt := inCls (top 21) 0
def b_AimRow__asked : S :=
  (.ret (.lst (.cons (.idx (.fld (.var 0) (flT "told")) (.neg (.cst (.int 1)))) .nil)))
def F_AimRow__asked : Fn := mkFn 1 [false] b_AimRow__asked
@[simp] theorem io_AimRow__asked : F_AimRow__asked.io = [false] := rfl
def t_AimRow__asked : List (Str × GI) := []
def m_AimRow__asked : MTab := []
def c_AimRow__asked : Cc := ⟨["self"], defScope s_AimRow__asked, fun _ => true, (fun x => t_AimRow__asked.lookup x), 1, [], [], flT, msOf m_AimRow__asked, []⟩
theorem k_AimRow__asked : css 4194304 c_AimRow__asked (defBody s_AimRow__asked) = some b_AimRow__asked := by kernel_rfl
theorem sc_AimRow__asked : FnScope c_AimRow__asked.N ["self"] c_AimRow__asked.sc := ⟨rfl, rfl, rfl, by decide +kernel, rfl, by decide +kernel, by decide +kernel⟩
/-! ### AlikeRow__asked -/
abbrev s_AlikeRow__asked : Stmt := inCls (top 27) 0
def b_AlikeRow__asked : S :=
  (.ret (.bi .list (.cons (.sli (.fld (.var 0) (flT "told")) (.so (.cst (.int 2))) .no) .nil)))
def F_AlikeRow__asked : Fn := mkFn 1 [false] b_AlikeRow__asked
@[simp] theorem io_AlikeRow__asked : F_AlikeRow__asked.io = [false] := rfl
def t_AlikeRow__asked : List (Str × GI) := [("list", .blt)]
def m_AlikeRow__asked : MTab := []
def c_AlikeRow__asked : Cc := ⟨["self"], defScope s_AlikeRow__asked, fun _ => true, (fun x => t_AlikeRow__asked.lookup x), 1, [], [], flT, msOf m_AlikeRow__asked, []⟩
theorem k_AlikeRow__asked : css 4194304 c_AlikeRow__asked (defBody s_AlikeRow__asked) = some b_AlikeRow__asked := by kernel_rfl
theorem sc_AlikeRow__asked : FnScope c_AlikeRow__asked.N ["self"] c_AlikeRow__asked.sc := ⟨rfl, rfl, rfl, by decide +kernel, rfl, by decide +kernel, by decide +kernel⟩
/-! ### TableRow__asked -/
abbrev s_TableRow__asked : Stmt := inCls (top 32) 0
def b_TableRow__asked : S :=
  (.ret (.bi .list (.cons (.idx (.fld (.var 0) (flT "told")) (.cst (.int 1))) .nil)))
def F_TableRow__asked : Fn := mkFn 1 [false] b_TableRow__asked
@[simp] theorem io_TableRow__asked : F_TableRow__asked.io = [false] := rfl
def t_TableRow__asked : List (Str × GI) := [("list", .blt)]
def m_TableRow__asked : MTab := []
def c_TableRow__asked : Cc := ⟨["self"], defScope s_TableRow__asked, fun _ => true, (fun x => t_TableRow__asked.lookup x), 1, [], [], flT, msOf m_TableRow__asked, []⟩
theorem k_TableRow__asked : css 4194304 c_TableRow__asked (defBody s_TableRow__asked) = some b_TableRow__asked := by kernel_rfl
theorem sc_TableRow__asked : FnScope c_TableRow__asked.N ["self"] c_TableRow__asked.sc := ⟨rfl, rfl, rfl, by decide +kernel, rfl, by decide +kernel, by decide +kernel⟩
def mt_asked : List (Nat × Fn) := [(0, F_Row__asked), (1, F_Row__asked), (2, F_Row__asked), (3, F_Row__asked), (4, F_Row__asked), (5, F_Row__asked), (6, F_Row__asked), (7, F_Row__asked), (8, F_AimRow__asked), (9, F_AimRow__asked), (10, F_AimRow__asked), (11, F_AimRow__asked), (12, F_AimRow__asked), (13, F_AimRow__asked), (14, F_AlikeRow__asked), (15, F_Row__asked), (16, F_Row__asked), (17, F_Row__asked), (18, F_Row__asked), (19, F_TableRow__asked)]
/-! ### asked_by -/
abbrev s_asked_by : Stmt := top 38
def b_asked_by : S :=
  (.ret (.meth (fun q => mt_asked.lookup q) (.ci (.call F_row_of (.ct (.var 0) .nil)) .nil)))
def F_asked_by : Fn := mkFn 1 [false] b_asked_by
@[simp] theorem io_asked_by : F_asked_by.io = [false] := rfl
def t_asked_by : List (Str × GI) := [("row_of", .fn F_row_of)]
def m_asked_by : MTab := [("asked", [false], mt_asked)]
def c_asked_by : Cc := ⟨["row"], defScope s_asked_by, fun _ => true, (fun x => t_asked_by.lookup x), 1, [(254, 18)], [], flT, msOf m_asked_by, []⟩
theorem k_asked_by : css 4194304 c_asked_by (defBody s_asked_by) = some b_asked_by := by kernel_rfl
theorem sc_asked_by : FnScope c_asked_by.N ["row"] c_asked_by.sc := ⟨rfl, rfl, rfl, by decide +kernel, rfl, by decide +kernel, by decide +kernel⟩
/-! ### _law_mixed -/
abbrev s__law_mixed : Stmt := top 40
def b__law_mixed : S :=
  (.seq (.asg (.name 2) (.bin .mod (.bin .mul (.bin .add (.bin .add (.bin .mod (.var 0) (.cst (.int 2147483647))) (.bin .mul (.cst (.int 7919)) (.var 1))) (.cst (.int 1))) (.cst (.int 48271))) (.cst (.int 2147483647))))
  (.seq (.asg (.name 2) (.bin .mod (.bin .mul (.var 2) (.bin .add (.bin .fdiv (.var 2) (.cst (.int 1009))) (.cst (.int 69621)))) (.cst (.int 2147483647))))
  (.ret (.bin .mod (.bin .mul (.bin .add (.var 2) (.bin .mul (.cst (.int 31)) (.var 1))) (.bin .add (.bin .fdiv (.var 2) (.cst (.int 16807))) (.cst (.int 40692)))) (.cst (.int 2147483629))))))
def F__law_mixed : Fn := mkFn 3 [false, false] b__law_mixed
@[simp] theorem io__law_mixed : F__law_mixed.io = [false, false] := rfl
def t__law_mixed : List (Str × GI) := []
def m__law_mixed : MTab := []
def c__law_mixed : Cc := ⟨["_law_cell", "_law_k", "_law_number_here"], defScope s__law_mixed, fun _ => true, (fun x => t__law_mixed.lookup x), 2, [], [], flT, msOf m__law_mixed, []⟩
theorem k__law_mixed : css 4194304 c__law_mixed (defBody s__law_mixed) = some b__law_mixed := by kernel_rfl
theorem sc__law_mixed : FnScope c__law_mixed.N ["_law_cell", "_law_k"] c__law_mixed.sc := ⟨rfl, rfl, rfl, by decide +kernel, rfl, by decide +kernel, by decide +kernel⟩
/-! ### _law_draws -/
abbrev s__law_draws : Stmt := top 41
def b__law_draws : S :=
  (.seq (.asg (.name 2) (.lst .nil))
  (.seq (.asg (.name 3) (.bin .fdiv (.var 0) (.cst (.int 2))))
  (.seq (.for (.name 4) (.rng (.cons (.var 1) .nil))
  (.ife (.cmp .eq (.bin .mod (.var 0) (.cst (.int 2))) (.cst (.int 0)))
  (.seq (.app 2 (.bin .mod (.var 3) (.cst (.int 1000))))
  (.asg (.name 3) (.bin .fdiv (.var 3) (.cst (.int 1000)))))
  (.app 2 (.bin .mod (.call F__law_mixed (.ci (.var 3) (.ci (.var 4) .nil))) (.cst (.int 1000))))))
  (.retv 2))))
def F__law_draws : Fn := mkFn 5 [false, false] b__law_draws
@[simp] theorem io__law_draws : F__law_draws.io = [false, false] := rfl
def t__law_draws : List (Str × GI) := [("range", .blt), ("_law_mixed", .fn F__law_mixed)]
def m__law_draws : MTab := []
def c__law_draws : Cc := ⟨["_law_cell", "_law_many", "_law_found", "_law_rest", "_law_k"], defScope s__law_draws, fun _ => true, (fun x => t__law_draws.lookup x), 2, [], [], flT, msOf m__law_draws, []⟩
theorem k__law_draws : css 4194304 c__law_draws (defBody s__law_draws) = some b__law_draws := by kernel_rfl
theorem sc__law_draws : FnScope c__law_draws.N ["_law_cell", "_law_many"] c__law_draws.sc := ⟨rfl, rfl, rfl, by decide +kernel, rfl, by decide +kernel, by decide +kernel⟩
/-! ### _law_name -/
abbrev s__law_name : Stmt := top 42
def b__law_name : S :=
  (.seq (.asg (.name 1) (.cst (.str "abcdefghijklmnopqrstuvwxyz")))
  (.ret (.bin .mul (.bin .add (.idx (.var 1) (.bin .mod (.var 0) (.cst (.int 26)))) (.idx (.var 1) (.bin .mod (.bin .fdiv (.var 0) (.cst (.int 26))) (.cst (.int 26))))) (.bin .add (.cst (.int 1)) (.bin .mod (.bin .fdiv (.var 0) (.cst (.int 676))) (.cst (.int 4)))))))
def F__law_name : Fn := mkFn 2 [false] b__law_name
@[simp] theorem io__law_name : F__law_name.io = [false] := rfl
def t__law_name : List (Str × GI) := []
def m__law_name : MTab := []
def c__law_name : Cc := ⟨["_law_draw", "_law_letters"], defScope s__law_name, fun _ => true, (fun x => t__law_name.lookup x), 1, [], [], flT, msOf m__law_name, []⟩
theorem k__law_name : css 4194304 c__law_name (defBody s__law_name) = some b__law_name := by kernel_rfl
theorem sc__law_name : FnScope c__law_name.N ["_law_draw"] c__law_name.sc := ⟨rfl, rfl, rfl, by decide +kernel, rfl, by decide +kernel, by decide +kernel⟩
/-! ### _law_number -/
abbrev s__law_number : Stmt := top 43
def b__law_number : S :=
  (.seq (.asg (.name 2) (.lst (.cons (.bin .sub (.var 0) (.cst (.int 500))) (.cons (.bin .add (.neg (.cst (.int 2147483648))) (.var 0)) (.cons (.bin .sub (.cst (.int 2147483647)) (.var 0)) (.cons (.bin .sub (.bin .mod (.bin .mul (.var 0) (.cst (.int 1000003))) (.cst (.int 4294967296))) (.cst (.int 2147483648))) .nil))))))
  (.ret (.idx (.var 2) (.bin .mod (.var 1) (.cst (.int 4))))))
def F__law_number : Fn := mkFn 3 [false, false] b__law_number
@[simp] theorem io__law_number : F__law_number.io = [false, false] := rfl
def t__law_number : List (Str × GI) := []
def m__law_number : MTab := []
def c__law_number : Cc := ⟨["_law_draw", "_law_more", "_law_some"], defScope s__law_number, fun _ => true, (fun x => t__law_number.lookup x), 2, [], [], flT, msOf m__law_number, []⟩
theorem k__law_number : css 4194304 c__law_number (defBody s__law_number) = some b__law_number := by kernel_rfl
theorem sc__law_number : FnScope c__law_number.N ["_law_draw", "_law_more"] c__law_number.sc := ⟨rfl, rfl, rfl, by decide +kernel, rfl, by decide +kernel, by decide +kernel⟩
/-! ### _law_list -/
abbrev s__law_list : Stmt := top 44
def b__law_list : S :=
  (.seq (.ife (.cmp .eq (.var 0) (.cst (.str "numbers")))
  (.ret (.comp (.call F__law_number (.ci (.var 3) (.ci (.bin .add (.var 2) (.bin .fdiv (.var 3) (.cst (.int 4)))) .nil))) (.tup [(.name 2), (.name 3)]) (.enu (.var 1)) .no))
  .pass)
  (.ret (.comp (.call F__law_name (.ci (.var 3) .nil)) (.name 3) (.lst (.var 1)) .no)))
def F__law_list : Fn := mkFn 4 [false, false] b__law_list
@[simp] theorem io__law_list : F__law_list.io = [false, false] := rfl
def t__law_list : List (Str × GI) := [("_law_name", .fn F__law_name), ("_law_number", .fn F__law_number), ("enumerate", .blt)]
def m__law_list : MTab := []
def c__law_list : Cc := ⟨["_law_kind", "_law_draws_here", "_law_k", "_law_draw"], defScope s__law_list, fun _ => true, (fun x => t__law_list.lookup x), 2, [], [], flT, msOf m__law_list, []⟩
theorem k__law_list : css 4194304 c__law_list (defBody s__law_list) = some b__law_list := by kernel_rfl
theorem sc__law_list : FnScope c__law_list.N ["_law_kind", "_law_draws_here"] c__law_list.sc := ⟨rfl, rfl, rfl, by decide +kernel, rfl, by decide +kernel, by decide +kernel⟩
/-! ### _law_told -/
abbrev s__law_told : Stmt := top 45
def b__law_told : S :=
  (.seq (.asg (.tup [(.name 1), (.name 2)]) (.tup (.cons (.bin .mod (.idx (.var 0) (.cst (.int 1))) (.cst (.int 4))) (.cons (.bin .mod (.idx (.var 0) (.cst (.int 2))) (.cst (.int 4))) .nil))))
  (.seq (.asg (.tup [(.name 3), (.name 4)]) (.tup (.cons (.call F__law_name (.ci (.idx (.var 0) (.cst (.int 3))) .nil)) (.cons (.call F__law_name (.ci (.idx (.var 0) (.cst (.int 4))) .nil)) .nil))))
  (.seq (.asg (.name 5) (.lst (.cons (.tup (.cons (.cst (.str "mark")) (.cons (.var 3) (.cons (.cmp .eq (.bin .mod (.idx (.var 0) (.cst (.int 1))) (.cst (.int 2))) (.cst (.int 1))) .nil)))) (.cons (.tup (.cons (.cst (.str "set")) (.cons (.var 1) (.cons (.call F__law_number (.ci (.idx (.var 0) (.cst (.int 3))) (.ci (.idx (.var 0) (.cst (.int 2))) .nil))) .nil)))) (.cons (.tup (.cons (.cst (.str "add")) (.cons (.var 1) (.cons (.var 2) .nil)))) .nil)))))
  (.seq (.asg (.name 5) (.bin .add (.var 5) (.lst (.cons (.tup (.cons (.cst (.str "take")) (.cons (.var 1) (.cons (.var 2) .nil)))) (.cons (.tup (.cons (.cst (.str "say")) (.cons (.var 1) .nil))) (.cons (.tup (.cons (.cst (.str "ask")) (.cons (.var 1) .nil))) (.cons (.tup (.cons (.cst (.str "jump")) (.cons (.var 3) .nil))) (.cons (.tup (.cons (.cst (.str "jumpif")) (.cons (.var 1) (.cons (.var 3) .nil)))) (.cons (.tup (.cons (.cst (.str "call")) (.cons (.var 3) .nil))) .nil)))))))))
  (.seq (.asg (.name 5) (.bin .add (.var 5) (.lst (.cons (.tup (.cons (.cst (.str "back")) .nil)) (.cons (.tup (.cons (.cst (.str "stop")) .nil)) .nil)))))
  (.seq (.asg (.name 5) (.bin .add (.var 5) (.lst (.cons (.tup (.cons (.cst (.str "load")) (.cons (.var 1) (.cons (.var 2) (.cons (.var 3) .nil))))) (.cons (.tup (.cons (.cst (.str "jumpby")) (.cons (.var 1) (.cons (.var 3) .nil)))) (.cons (.tup (.cons (.cst (.str "alike")) (.cons (.var 1) (.cons (.var 3) (.cons (.var 4) .nil))))) .nil))))))
  (.seq (.asg (.name 5) (.bin .add (.var 5) (.lst (.cons (.tup (.cons (.cst (.str "numbers")) (.cons (.call F__law_list (.ci (.cst (.str "numbers")) (.ci (.sli (.var 0) (.so (.cst (.int 4))) .no) .nil))) .nil))) (.cons (.tup (.cons (.cst (.str "table")) (.cons (.call F__law_list (.ci (.cst (.str "table")) (.ci (.sli (.var 0) (.so (.cst (.int 4))) .no) .nil))) .nil))) .nil)))))
  (.ret (.idx (.var 5) (.bin .mod (.idx (.var 0) (.cst (.int 0))) (.cst (.int 16))))))))))))
def F__law_told : Fn := mkFn 6 [false] b__law_told
@[simp] theorem io__law_told : F__law_told.io = [false] := rfl
def t__law_told : List (Str × GI) := [("_law_list", .fn F__law_list), ("_law_number", .fn F__law_number), ("_law_name", .fn F__law_name)]
def m__law_told : MTab := []
def c__law_told : Cc := ⟨["_law_draws_here", "_law_b", "_law_c", "_law_one", "_law_other", "_law_some"], defScope s__law_told, fun _ => true, (fun x => t__law_told.lookup x), 1, [], [], flT, msOf m__law_told, []⟩
theorem k__law_told : css 4194304 c__law_told (defBody s__law_told) = some b__law_told := by kernel_rfl
theorem sc__law_told : FnScope c__law_told.N ["_law_draws_here"] c__law_told.sc := ⟨rfl, rfl, rfl, by decide +kernel, rfl, by decide +kernel, by decide +kernel⟩
/-! ### _law_due_names -/
abbrev s__law_due_names : Stmt := top 46
def b__law_due_names : S :=
  (.seq (.ife (.cmp .inn (.idx (.var 0) (.cst (.int 0))) (.tup (.cons (.cst (.str "jump")) (.cons (.cst (.str "jumpif")) (.cons (.cst (.str "call")) (.cons (.cst (.str "load")) (.cons (.cst (.str "jumpby")) .nil)))))))
  (.ret (.lst (.cons (.idx (.var 0) (.neg (.cst (.int 1)))) .nil)))
  .pass)
  (.seq (.ife (.cmp .eq (.idx (.var 0) (.cst (.int 0))) (.cst (.str "alike")))
  (.ret (.lst (.cons (.idx (.var 0) (.cst (.int 2))) (.cons (.idx (.var 0) (.cst (.int 3))) .nil))))
  .pass)
  (.seq (.ife (.cmp .eq (.idx (.var 0) (.cst (.int 0))) (.cst (.str "table")))
  (.ret (.bi .list (.cons (.idx (.var 0) (.cst (.int 1))) .nil)))
  .pass)
  (.ret (.lst .nil)))))
def F__law_due_names : Fn := mkFn 1 [false] b__law_due_names
@[simp] theorem io__law_due_names : F__law_due_names.io = [false] := rfl
def t__law_due_names : List (Str × GI) := [("list", .blt)]
def m__law_due_names : MTab := []
def c__law_due_names : Cc := ⟨["_law_told_here"], defScope s__law_due_names, fun _ => true, (fun x => t__law_due_names.lookup x), 1, [], [], flT, msOf m__law_due_names, []⟩
theorem k__law_due_names : css 4194304 c__law_due_names (defBody s__law_due_names) = some b__law_due_names := by kernel_rfl
theorem sc__law_due_names : FnScope c__law_due_names.N ["_law_told_here"] c__law_due_names.sc := ⟨rfl, rfl, rfl, by decide +kernel, rfl, by decide +kernel, by decide +kernel⟩
/-! ### _law_due_lengths -/
abbrev s__law_due_lengths : Stmt := top 47
def b__law_due_lengths : S :=
  (.seq (.ife (.cmp .eq (.idx (.var 0) (.cst (.int 0))) (.cst (.str "mark")))
  (.ret (.tup (.cons (.cst (.int 0)) .nil)))
  .pass)
  (.seq (.ife (.cmp .inn (.idx (.var 0) (.cst (.int 0))) (.tup (.cons (.cst (.str "set")) (.cons (.cst (.str "alike")) .nil))))
  (.ret (.tup (.cons (.cst (.int 5)) .nil)))
  .pass)
  (.seq (.ife (.cmp .inn (.idx (.var 0) (.cst (.int 0))) (.tup (.cons (.cst (.str "jump")) (.cons (.cst (.str "jumpif")) (.cons (.cst (.str "call")) (.cons (.cst (.str "load")) (.cons (.cst (.str "jumpby")) .nil)))))))
  (.ret (.tup (.cons (.cst (.int 2)) (.cons (.cst (.int 3)) .nil))))
  .pass)
  (.seq (.ife (.cmp .eq (.idx (.var 0) (.cst (.int 0))) (.cst (.str "numbers")))
  (.ret (.tup (.cons (.bin .add (.cst (.int 2)) (.bin .mul (.cst (.int 4)) (.bi .len (.cons (.idx (.var 0) (.cst (.int 1))) .nil)))) .nil)))
  .pass)
  (.seq (.ife (.cmp .eq (.idx (.var 0) (.cst (.int 0))) (.cst (.str "table")))
  (.ret (.tup (.cons (.bin .add (.cst (.int 2)) (.bin .mul (.cst (.int 2)) (.bi .len (.cons (.idx (.var 0) (.cst (.int 1))) .nil)))) .nil)))
  .pass)
  (.ret (.tup (.cons (.cst (.int 1)) .nil))))))))
def F__law_due_lengths : Fn := mkFn 1 [false] b__law_due_lengths
@[simp] theorem io__law_due_lengths : F__law_due_lengths.io = [false] := rfl
def t__law_due_lengths : List (Str × GI) := [("len", .blt)]
def m__law_due_lengths : MTab := []
def c__law_due_lengths : Cc := ⟨["_law_told_here"], defScope s__law_due_lengths, fun _ => true, (fun x => t__law_due_lengths.lookup x), 1, [], [], flT, msOf m__law_due_lengths, []⟩
theorem k__law_due_lengths : css 4194304 c__law_due_lengths (defBody s__law_due_lengths) = some b__law_due_lengths := by kernel_rfl
theorem sc__law_due_lengths : FnScope c__law_due_lengths.N ["_law_told_here"] c__law_due_lengths.sc := ⟨rfl, rfl, rfl, by decide +kernel, rfl, by decide +kernel, by decide +kernel⟩
/-! ### _law_kinds -/
abbrev s__law_kinds : Stmt := top 48
def b__law_kinds : S :=
  (.ret (.lst (.cons (.isi (.var 0) (.cls 20 [1])) (.cons (.isi (.var 0) (.cls 20 [2, 3, 4, 5, 6, 7, 8, 9, 10, 11, 12, 13, 14, 15, 16])) (.cons (.isi (.var 0) (.cls 20 [17, 18, 19])) .nil)))))
def F__law_kinds : Fn := mkFn 1 [false] b__law_kinds
@[simp] theorem io__law_kinds : F__law_kinds.io = [false] := rfl
def t__law_kinds : List (Str × GI) := [("isinstance", .blt), ("DataRow", .cls 17 none (some (20, [17, 18, 19]))), ("CodeRow", .cls 2 none (some (20, [2, 3, 4, 5, 6, 7, 8, 9, 10, 11, 12, 13, 14, 15, 16]))), ("MarkRow", .cls 1 none (some (20, [1])))]
def m__law_kinds : MTab := []
def c__law_kinds : Cc := ⟨["_law_row"], defScope s__law_kinds, fun _ => true, (fun x => t__law_kinds.lookup x), 1, [], [], flT, msOf m__law_kinds, []⟩
theorem k__law_kinds : css 4194304 c__law_kinds (defBody s__law_kinds) = some b__law_kinds := by kernel_rfl
theorem sc__law_kinds : FnScope c__law_kinds.N ["_law_row"] c__law_kinds.sc := ⟨rfl, rfl, rfl, by decide +kernel, rfl, by decide +kernel, by decide +kernel⟩
/-! ### Row__goes_on -/
abbrev s_Row__goes_on : Stmt := inCls (top 13) 4
def b_Row__goes_on : S :=
  (.ret (.cst (.bl false)))
def F_Row__goes_on : Fn := mkFn 1 [false] b_Row__goes_on
@[simp] theorem io_Row__goes_on : F_Row__goes_on.io = [false] := rfl
def t_Row__goes_on : List (Str × GI) := []
def m_Row__goes_on : MTab := []
def c_Row__goes_on : Cc := ⟨["self"], defScope s_Row__goes_on, fun _ => true, (fun x => t_Row__goes_on.lookup x), 1, [], [], flT, msOf m_Row__goes_on, []⟩
theorem k_Row__goes_on : css 4194304 c_Row__goes_on (defBody s_Row__goes_on) = some b_Row__goes_on := by kernel_rfl
theorem sc_Row__goes_on : FnScope c_Row__goes_on.N ["self"] c_Row__goes_on.sc := ⟨rfl, rfl, rfl, by decide +kernel, rfl, by decide +kernel, by decide +kernel⟩
/-! ### CodeRow__goes_on -/
abbrev s_CodeRow__goes_on : Stmt := inCls (top 15) 0
def b_CodeRow__goes_on : S :=
  (.ret (.cst (.bl true)))
def F_CodeRow__goes_on : Fn := mkFn 1 [false] b_CodeRow__goes_on
@[simp] theorem io_CodeRow__goes_on : F_CodeRow__goes_on.io = [false] := rfl
def t_CodeRow__goes_on : List (Str × GI) := []
def m_CodeRow__goes_on : MTab := []
def c_CodeRow__goes_on : Cc := ⟨["self"], defScope s_CodeRow__goes_on, fun _ => true, (fun x => t_CodeRow__goes_on.lookup x), 1, [], [], flT, msOf m_CodeRow__goes_on, []⟩
theorem k_CodeRow__goes_on : css 4194304 c_CodeRow__goes_on (defBody s_CodeRow__goes_on) = some b_CodeRow__goes_on := by kernel_rfl
theorem sc_CodeRow__goes_on : FnScope c_CodeRow__goes_on.N ["self"] c_CodeRow__goes_on.sc := ⟨rfl, rfl, rfl, by decide +kernel, rfl, by decide +kernel, by decide +kernel⟩
/-! ### JumpRow__goes_on -/
abbrev s_JumpRow__goes_on : Stmt := inCls (top 22) 0
def b_JumpRow__goes_on : S :=
  (.ret (.cst (.bl false)))
def F_JumpRow__goes_on : Fn := mkFn 1 [false] b_JumpRow__goes_on
@[simp] theorem io_JumpRow__goes_on : F_JumpRow__goes_on.io = [false] := rfl
def t_JumpRow__goes_on : List (Str × GI) := []
def m_JumpRow__goes_on : MTab := []
def c_JumpRow__goes_on : Cc := ⟨["self"], defScope s_JumpRow__goes_on, fun _ => true, (fun x => t_JumpRow__goes_on.lookup x), 1, [], [], flT, msOf m_JumpRow__goes_on, []⟩
theorem k_JumpRow__goes_on : css 4194304 c_JumpRow__goes_on (defBody s_JumpRow__goes_on) = some b_JumpRow__goes_on := by kernel_rfl
theorem sc_JumpRow__goes_on : FnScope c_JumpRow__goes_on.N ["self"] c_JumpRow__goes_on.sc := ⟨rfl, rfl, rfl, by decide +kernel, rfl, by decide +kernel, by decide +kernel⟩
/-! ### JumpByRow__goes_on -/
abbrev s_JumpByRow__goes_on : Stmt := inCls (top 26) 0
def b_JumpByRow__goes_on : S :=
  (.ret (.cst (.bl false)))
def F_JumpByRow__goes_on : Fn := mkFn 1 [false] b_JumpByRow__goes_on
@[simp] theorem io_JumpByRow__goes_on : F_JumpByRow__goes_on.io = [false] := rfl
def t_JumpByRow__goes_on : List (Str × GI) := []
def m_JumpByRow__goes_on : MTab := []
def c_JumpByRow__goes_on : Cc := ⟨["self"], defScope s_JumpByRow__goes_on, fun _ => true, (fun x => t_JumpByRow__goes_on.lookup x), 1, [], [], flT, msOf m_JumpByRow__goes_on, []⟩
theorem k_JumpByRow__goes_on : css 4194304 c_JumpByRow__goes_on (defBody s_JumpByRow__goes_on) = some b_JumpByRow__goes_on := by kernel_rfl
theorem sc_JumpByRow__goes_on : FnScope c_JumpByRow__goes_on.N ["self"] c_JumpByRow__goes_on.sc := ⟨rfl, rfl, rfl, by decide +kernel, rfl, by decide +kernel, by decide +kernel⟩
/-! ### BackRow__goes_on -/
abbrev s_BackRow__goes_on : Stmt := inCls (top 28) 0
def b_BackRow__goes_on : S :=
  (.ret (.cst (.bl false)))
def F_BackRow__goes_on : Fn := mkFn 1 [false] b_BackRow__goes_on
@[simp] theorem io_BackRow__goes_on : F_BackRow__goes_on.io = [false] := rfl
def t_BackRow__goes_on : List (Str × GI) := []
def m_BackRow__goes_on : MTab := []
def c_BackRow__goes_on : Cc := ⟨["self"], defScope s_BackRow__goes_on, fun _ => true, (fun x => t_BackRow__goes_on.lookup x), 1, [], [], flT, msOf m_BackRow__goes_on, []⟩
theorem k_BackRow__goes_on : css 4194304 c_BackRow__goes_on (defBody s_BackRow__goes_on) = some b_BackRow__goes_on := by kernel_rfl
theorem sc_BackRow__goes_on : FnScope c_BackRow__goes_on.N ["self"] c_BackRow__goes_on.sc := ⟨rfl, rfl, rfl, by decide +kernel, rfl, by decide +kernel, by decide +kernel⟩
/-! ### StopRow__goes_on -/
abbrev s_StopRow__goes_on : Stmt := inCls (top 29) 0
def b_StopRow__goes_on : S :=
  (.ret (.cst (.bl false)))
def F_StopRow__goes_on : Fn := mkFn 1 [false] b_StopRow__goes_on
@[simp] theorem io_StopRow__goes_on : F_StopRow__goes_on.io = [false] := rfl
def t_StopRow__goes_on : List (Str × GI) := []
def m_StopRow__goes_on : MTab := []
def c_StopRow__goes_on : Cc := ⟨["self"], defScope s_StopRow__goes_on, fun _ => true, (fun x => t_StopRow__goes_on.lookup x), 1, [], [], flT, msOf m_StopRow__goes_on, []⟩
theorem k_StopRow__goes_on : css 4194304 c_StopRow__goes_on (defBody s_StopRow__goes_on) = some b_StopRow__goes_on := by kernel_rfl
theorem sc_StopRow__goes_on : FnScope c_StopRow__goes_on.N ["self"] c_StopRow__goes_on.sc := ⟨rfl, rfl, rfl, by decide +kernel, rfl, by decide +kernel, by decide +kernel⟩
/-! ### Row__words -/
abbrev s_Row__words : Stmt := inCls (top 13) 1
def b_Row__words : S :=
  (.ret (.fld (.var 0) (flT "told")))
def F_Row__words : Fn := mkFn 1 [false] b_Row__words
@[simp] theorem io_Row__words : F_Row__words.io = [false] := rfl
def t_Row__words : List (Str × GI) := []
def m_Row__words : MTab := []
def c_Row__words : Cc := ⟨["self"], defScope s_Row__words, fun _ => true, (fun x => t_Row__words.lookup x), 1, [], [], flT, msOf m_Row__words, []⟩
theorem k_Row__words : css 4194304 c_Row__words (defBody s_Row__words) = some b_Row__words := by kernel_rfl
theorem sc_Row__words : FnScope c_Row__words.N ["self"] c_Row__words.sc := ⟨rfl, rfl, rfl, by decide +kernel, rfl, by decide +kernel, by decide +kernel⟩
/-! ### DataRow__words -/
abbrev s_DataRow__words : Stmt := inCls (top 30) 0
def b_DataRow__words : S :=
  (.ret (.tupo (.ct (.idx (.fld (.var 0) (flT "told")) (.cst (.int 0))) (.ct (.bi .list (.cons (.idx (.fld (.var 0) (flT "told")) (.cst (.int 1))) .nil)) .nil))))
def F_DataRow__words : Fn := mkFn 1 [false] b_DataRow__words
@[simp] theorem io_DataRow__words : F_DataRow__words.io = [false] := rfl
def t_DataRow__words : List (Str × GI) := [("list", .blt)]
def m_DataRow__words : MTab := []
def c_DataRow__words : Cc := ⟨["self"], defScope s_DataRow__words, fun _ => true, (fun x => t_DataRow__words.lookup x), 1, [(178, 15)], [], flT, msOf m_DataRow__words, []⟩
theorem k_DataRow__words : css 4194304 c_DataRow__words (defBody s_DataRow__words) = some b_DataRow__words := by kernel_rfl
theorem sc_DataRow__words : FnScope c_DataRow__words.N ["self"] c_DataRow__words.sc := ⟨rfl, rfl, rfl, by decide +kernel, rfl, by decide +kernel, by decide +kernel⟩
def mt_words : List (Nat × Fn) := [(0, F_Row__words), (1, F_Row__words), (2, F_Row__words), (3, F_Row__words), (4, F_Row__words), (5, F_Row__words), (6, F_Row__words), (7, F_Row__words), (8, F_Row__words), (9, F_Row__words), (10, F_Row__words), (11, F_Row__words), (12, F_Row__words), (13, F_Row__words), (14, F_Row__words), (15, F_Row__words), (16, F_Row__words), (17, F_DataRow__words), (18, F_DataRow__words), (19, F_DataRow__words)]
def mt_goes_on : List (Nat × Fn) := [(0, F_Row__goes_on), (1, F_Row__goes_on), (2, F_CodeRow__goes_on), (3, F_CodeRow__goes_on), (4, F_CodeRow__goes_on), (5, F_CodeRow__goes_on), (6, F_CodeRow__goes_on), (7, F_CodeRow__goes_on), (8, F_CodeRow__goes_on), (9, F_JumpRow__goes_on), (10, F_CodeRow__goes_on), (11, F_CodeRow__goes_on), (12, F_CodeRow__goes_on), (13, F_JumpByRow__goes_on), (14, F_CodeRow__goes_on), (15, F_BackRow__goes_on), (16, F_StopRow__goes_on), (17, F_Row__goes_on), (18, F_Row__goes_on), (19, F_Row__goes_on)]
/-! ### _law_tells -/
abbrev s__law_tells : Stmt := top 49
def b__law_tells : S :=
  (.seq (.asg (.name 2) (.meth (fun q => mt_goes_on.lookup q) (.ci (.var 0) .nil)))
  (.seq (.ife (.or (.not (.isi (.meth (fun q => mt_words.lookup q) (.ci (.var 0) .nil)) .tuple)) (.or (.cmp .ne (.meth (fun q => mt_words.lookup q) (.ci (.var 0) .nil)) (.var 1)) (.not (.isi (.var 2) .bool))))
  (.ret (.cst (.bl false)))
  .pass)
  (.seq (.ife (.cmp .ne (.var 2) (.cmp .inn (.idx (.var 1) (.cst (.int 0))) (.tup (.cons (.cst (.str "set")) (.cons (.cst (.str "add")) (.cons (.cst (.str "take")) (.cons (.cst (.str "say")) (.cons (.cst (.str "ask")) (.cons (.cst (.str "jumpif")) (.cons (.cst (.str "call")) (.cons (.cst (.str "load")) (.cons (.cst (.str "alike")) .nil))))))))))))
  (.ret (.cst (.bl false)))
  .pass)
  (.seq (.asg (.name 3) (.meth (fun q => mt_asked.lookup q) (.ci (.var 0) .nil)))
  (.seq (.ife (.or (.not (.isi (.var 3) .list)) (.or (.cmp .ne (.var 3) (.call F__law_due_names (.ci (.var 1) .nil))) (.cmp .ne (.call F_asked_by (.ci (.var 1) .nil)) (.var 3))))
  (.ret (.cst (.bl false)))
  .pass)
  (.seq (.ife (.or (.not (.isi (.meth (fun q => mt_lengths.lookup q) (.ci (.var 0) .nil)) .tuple)) (.cmp .ne (.meth (fun q => mt_lengths.lookup q) (.ci (.var 0) .nil)) (.call F__law_due_lengths (.ci (.var 1) .nil))))
  (.ret (.cst (.bl false)))
  .pass)
  (.seq (.app 3 (.cst (.str "x")))
  (.ret (.and (.cmp .eq (.meth (fun q => mt_asked.lookup q) (.ci (.var 0) .nil)) (.call F__law_due_names (.ci (.var 1) .nil))) (.cmp .eq (.call F_lengths (.ci (.var 1) .nil)) (.call F__law_due_lengths (.ci (.var 1) .nil))))))))))))
def F__law_tells : Fn := mkFn 4 [false, false] b__law_tells
@[simp] theorem io__law_tells : F__law_tells.io = [false, false] := rfl
def t__law_tells : List (Str × GI) := [("lengths", .fn F_lengths), ("_law_due_lengths", .fn F__law_due_lengths), ("_law_due_names", .fn F__law_due_names), ("isinstance", .blt), ("tuple", .blt), ("asked_by", .fn F_asked_by), ("list", .blt), ("bool", .blt)]
def m__law_tells : MTab := [("asked", [false], mt_asked), ("lengths", [false], mt_lengths), ("words", [false], mt_words), ("goes_on", [false], mt_goes_on)]
def c__law_tells : Cc := ⟨["_law_row", "_law_told_here", "_law_goes", "_law_names"], defScope s__law_tells, fun _ => true, (fun x => t__law_tells.lookup x), 2, [], [], flT, msOf m__law_tells, []⟩
theorem k__law_tells : css 4194304 c__law_tells (defBody s__law_tells) = some b__law_tells := by kernel_rfl
theorem sc__law_tells : FnScope c__law_tells.N ["_law_row", "_law_told_here"] c__law_tells.sc := ⟨rfl, rfl, rfl, by decide +kernel, rfl, by decide +kernel, by decide +kernel⟩
/-! ### _law_right -/
abbrev s__law_right : Stmt := top 50
def b__law_right : S :=
  (.seq (.asg (.name 1) (.var 0))
  (.seq (.ife (.lend (.cmp .inn (.idx (.var 0) (.cst (.int 0))) (.tup (.cons (.cst (.str "numbers")) (.cons (.cst (.str "table")) .nil)))))
  (.asg (.name 1) (.tupo (.ct (.idx (.var 0) (.cst (.int 0))) (.ct (.bi .list (.cons (.idx (.var 0) (.cst (.int 1))) .nil)) .nil))))
  .pass)
  (.seq (.asg (.name 2) (.call F_row_of (.cx 1 .nil)))
  (.seq (.asg (.name 3) (.lst (.cons (.cmp .eq (.idx (.var 0) (.cst (.int 0))) (.cst (.str "mark"))) (.cons (.cmp .nin (.idx (.var 0) (.cst (.int 0))) (.tup (.cons (.cst (.str "mark")) (.cons (.cst (.str "numbers")) (.cons (.cst (.str "table")) .nil))))) (.cons (.cmp .inn (.idx (.var 0) (.cst (.int 0))) (.tup (.cons (.cst (.str "numbers")) (.cons (.cst (.str "table")) .nil)))) .nil)))))
  (.seq (.ife (.lend (.or (.not (.isi (.var 2) (.cls 20 [0, 1, 2, 3, 4, 5, 6, 7, 8, 9, 10, 11, 12, 13, 14, 15, 16, 17, 18, 19]))) (.or (.cmp .ne (.call F__law_kinds (.ci (.var 2) .nil)) (.var 3)) (.or (.cmp .ne (.var 1) (.var 0)) (.not (.call F__law_tells (.ci (.var 2) (.ci (.var 0) .nil))))))))
  (.ret (.cst (.bl false)))
  .pass)
  (.seq (.ife (.lend (.cmp .inn (.idx (.var 0) (.cst (.int 0))) (.tup (.cons (.cst (.str "numbers")) (.cons (.cst (.str "table")) .nil)))))
  (.seq (.clrP 1 1)
  (.appT (.meth (fun q => mt_words.lookup q) (.ci (.var 2) .nil)) 1 (.int 7)))
  .pass)
  (.ret (.call F__law_tells (.ci (.var 2) (.ci (.var 0) .nil))))))))))
def F__law_right : Fn := mkFn 4 [false] b__law_right
@[simp] theorem io__law_right : F__law_right.io = [false] := rfl
def t__law_right : List (Str × GI) := [("_law_tells", .fn F__law_tells), ("_law_kinds", .fn F__law_kinds), ("isinstance", .blt), ("Row", .cls 0 none (some (20, [0, 1, 2, 3, 4, 5, 6, 7, 8, 9, 10, 11, 12, 13, 14, 15, 16, 17, 18, 19]))), ("row_of", .fn F_row_of), ("list", .blt)]
def m__law_right : MTab := [("words", [false], mt_words)]
def c__law_right : Cc := ⟨["_law_told_here", "_law_handed", "_law_row", "_law_due"], defScope s__law_right, fun _ => true, (fun x => t__law_right.lookup x), 1, [(327, 22)], [], flT, msOf m__law_right, [(332, 7), (330, 7), (326, 7)]⟩
theorem k__law_right : css 4194304 c__law_right (defBody s__law_right) = some b__law_right := by kernel_rfl
theorem sc__law_right : FnScope c__law_right.N ["_law_told_here"] c__law_right.sc := ⟨rfl, rfl, rfl, by decide +kernel, rfl, by decide +kernel, by decide +kernel⟩
/-! ### law -/
abbrev s_law : Stmt := top 51
def b_law : S :=
  (.seq (.for (.name 1) (.lst (.sli (.var 0) .no (.so (.cst (.int 20)))))
  (.seq (.asg (.name 2) (.call F__law_draws (.ci (.bin .fdiv (.var 1) (.cst (.int 60))) (.ci (.bin .add (.cst (.int 6)) (.bin .mod (.var 1) (.cst (.int 60)))) .nil))))
  (.for (.name 3) (.rng (.cons (.cst (.int 3)) .nil))
  (.ife (.not (.call F__law_right (.ci (.call F__law_told (.ci (.bin .add (.lst (.cons (.bin .add (.idx (.var 2) (.cst (.int 0))) (.bin .mul (.cst (.int 5)) (.var 3))) .nil)) (.sli (.var 2) (.so (.cst (.int 1))) (.so (.bin .add (.cst (.int 5)) (.bin .mod (.var 1) (.cst (.int 60))))))) .nil)) .nil)))
  (.ret (.cst (.bl false)))
  .pass))))
  (.ret (.and (.call F__law_right (.ci (.tup (.cons (.cst (.str "back")) .nil)) .nil)) (.call F__law_right (.ci (.tup (.cons (.cst (.str "stop")) .nil)) .nil)))))
def F_law : Fn := mkFn 4 [false] b_law
@[simp] theorem io_law : F_law.io = [false] := rfl
def t_law : List (Str × GI) := [("_law_right", .fn F__law_right), ("range", .blt), ("_law_told", .fn F__law_told), ("_law_draws", .fn F__law_draws)]
def m_law : MTab := []
def c_law : Cc := ⟨["_law_script", "_law_cell", "_law_draws_here", "_law_k"], defScope s_law, fun _ => true, (fun x => t_law.lookup x), 1, [], [], flT, msOf m_law, []⟩
theorem k_law : css 4194304 c_law (defBody s_law) = some b_law := by kernel_rfl
theorem sc_law : FnScope c_law.N ["_law_script"] c_law.sc := ⟨rfl, rfl, rfl, by decide +kernel, rfl, by decide +kernel, by decide +kernel⟩
/-! ### the head -/
def d_is_word : He.DefD := ⟨("is_word", none), "is_word", "is_word", defArgs s_is_word, defBody s_is_word, defScope s_is_word, [], []⟩
def d_is_box : He.DefD := ⟨("is_box", none), "is_box", "is_box", defArgs s_is_box, defBody s_is_box, defScope s_is_box, [], []⟩
def d_is_plain : He.DefD := ⟨("is_plain", none), "is_plain", "is_plain", defArgs s_is_plain, defBody s_is_plain, defScope s_is_plain, [], []⟩
def d_with_boxes : He.DefD := ⟨("with_boxes", none), "with_boxes", "with_boxes", defArgs s_with_boxes, defBody s_with_boxes, defScope s_with_boxes, [], []⟩
def d_with_aim : He.DefD := ⟨("with_aim", none), "with_aim", "with_aim", defArgs s_with_aim, defBody s_with_aim, defScope s_with_aim, [], []⟩
def d_with_list : He.DefD := ⟨("with_list", none), "with_list", "with_list", defArgs s_with_list, defBody s_with_list, defScope s_with_list, [], []⟩
def d_row_of : He.DefD := ⟨("row_of", none), "row_of", "row_of", defArgs s_row_of, defBody s_row_of, defScope s_row_of, [], []⟩
def d_lengths : He.DefD := ⟨("lengths", none), "lengths", "lengths", defArgs s_lengths, defBody s_lengths, defScope s_lengths, [], []⟩
def d_asked_by : He.DefD := ⟨("asked_by", none), "asked_by", "asked_by", defArgs s_asked_by, defBody s_asked_by, defScope s_asked_by, [], []⟩
def d__law_mixed : He.DefD := ⟨("_law_mixed", none), "_law_mixed", "_law_mixed", defArgs s__law_mixed, defBody s__law_mixed, defScope s__law_mixed, [], []⟩
def d__law_draws : He.DefD := ⟨("_law_draws", none), "_law_draws", "_law_draws", defArgs s__law_draws, defBody s__law_draws, defScope s__law_draws, [], []⟩
def d__law_name : He.DefD := ⟨("_law_name", none), "_law_name", "_law_name", defArgs s__law_name, defBody s__law_name, defScope s__law_name, [], []⟩
def d__law_number : He.DefD := ⟨("_law_number", none), "_law_number", "_law_number", defArgs s__law_number, defBody s__law_number, defScope s__law_number, [], []⟩
def d__law_list : He.DefD := ⟨("_law_list", none), "_law_list", "_law_list", defArgs s__law_list, defBody s__law_list, defScope s__law_list, [], []⟩
def d__law_told : He.DefD := ⟨("_law_told", none), "_law_told", "_law_told", defArgs s__law_told, defBody s__law_told, defScope s__law_told, [], []⟩
def d__law_due_names : He.DefD := ⟨("_law_due_names", none), "_law_due_names", "_law_due_names", defArgs s__law_due_names, defBody s__law_due_names, defScope s__law_due_names, [], []⟩
def d__law_due_lengths : He.DefD := ⟨("_law_due_lengths", none), "_law_due_lengths", "_law_due_lengths", defArgs s__law_due_lengths, defBody s__law_due_lengths, defScope s__law_due_lengths, [], []⟩
def d__law_kinds : He.DefD := ⟨("_law_kinds", none), "_law_kinds", "_law_kinds", defArgs s__law_kinds, defBody s__law_kinds, defScope s__law_kinds, [], []⟩
def d__law_tells : He.DefD := ⟨("_law_tells", none), "_law_tells", "_law_tells", defArgs s__law_tells, defBody s__law_tells, defScope s__law_tells, [], []⟩
def d__law_right : He.DefD := ⟨("_law_right", none), "_law_right", "_law_right", defArgs s__law_right, defBody s__law_right, defScope s__law_right, [], []⟩
def d_law : He.DefD := ⟨("law", none), "law", "law", defArgs s_law, defBody s_law, defScope s_law, [], []⟩
def d_Row__lengths_ : He.DefD := ⟨("Row", some "lengths"), "lengths", "Row.lengths", defArgs s_Row__lengths, defBody s_Row__lengths, defScope s_Row__lengths, [], []⟩
def d_MarkRow__lengths_ : He.DefD := ⟨("MarkRow", some "lengths"), "lengths", "Row.lengths", defArgs s_Row__lengths, defBody s_Row__lengths, defScope s_Row__lengths, [], []⟩
def d_CodeRow__lengths_ : He.DefD := ⟨("CodeRow", some "lengths"), "lengths", "CodeRow.lengths", defArgs s_CodeRow__lengths, defBody s_CodeRow__lengths, defScope s_CodeRow__lengths, [], []⟩
def d_SetRow__lengths_ : He.DefD := ⟨("SetRow", some "lengths"), "lengths", "SetRow.lengths", defArgs s_SetRow__lengths, defBody s_SetRow__lengths, defScope s_SetRow__lengths, [], []⟩
def d_AddRow__lengths_ : He.DefD := ⟨("AddRow", some "lengths"), "lengths", "CodeRow.lengths", defArgs s_CodeRow__lengths, defBody s_CodeRow__lengths, defScope s_CodeRow__lengths, [], []⟩
def d_TakeRow__lengths_ : He.DefD := ⟨("TakeRow", some "lengths"), "lengths", "CodeRow.lengths", defArgs s_CodeRow__lengths, defBody s_CodeRow__lengths, defScope s_CodeRow__lengths, [], []⟩
def d_SayRow__lengths_ : He.DefD := ⟨("SayRow", some "lengths"), "lengths", "CodeRow.lengths", defArgs s_CodeRow__lengths, defBody s_CodeRow__lengths, defScope s_CodeRow__lengths, [], []⟩
def d_AskRow__lengths_ : He.DefD := ⟨("AskRow", some "lengths"), "lengths", "CodeRow.lengths", defArgs s_CodeRow__lengths, defBody s_CodeRow__lengths, defScope s_CodeRow__lengths, [], []⟩
def d_AimRow__lengths_ : He.DefD := ⟨("AimRow", some "lengths"), "lengths", "AimRow.lengths", defArgs s_AimRow__lengths, defBody s_AimRow__lengths, defScope s_AimRow__lengths, [], []⟩
def d_JumpRow__lengths_ : He.DefD := ⟨("JumpRow", some "lengths"), "lengths", "AimRow.lengths", defArgs s_AimRow__lengths, defBody s_AimRow__lengths, defScope s_AimRow__lengths, [], []⟩
def d_JumpIfRow__lengths_ : He.DefD := ⟨("JumpIfRow", some "lengths"), "lengths", "AimRow.lengths", defArgs s_AimRow__lengths, defBody s_AimRow__lengths, defScope s_AimRow__lengths, [], []⟩
def d_CallRow__lengths_ : He.DefD := ⟨("CallRow", some "lengths"), "lengths", "AimRow.lengths", defArgs s_AimRow__lengths, defBody s_AimRow__lengths, defScope s_AimRow__lengths, [], []⟩
def d_LoadRow__lengths_ : He.DefD := ⟨("LoadRow", some "lengths"), "lengths", "AimRow.lengths", defArgs s_AimRow__lengths, defBody s_AimRow__lengths, defScope s_AimRow__lengths, [], []⟩
def d_JumpByRow__lengths_ : He.DefD := ⟨("JumpByRow", some "lengths"), "lengths", "AimRow.lengths", defArgs s_AimRow__lengths, defBody s_AimRow__lengths, defScope s_AimRow__lengths, [], []⟩
def d_AlikeRow__lengths_ : He.DefD := ⟨("AlikeRow", some "lengths"), "lengths", "AlikeRow.lengths", defArgs s_AlikeRow__lengths, defBody s_AlikeRow__lengths, defScope s_AlikeRow__lengths, [], []⟩
def d_BackRow__lengths_ : He.DefD := ⟨("BackRow", some "lengths"), "lengths", "CodeRow.lengths", defArgs s_CodeRow__lengths, defBody s_CodeRow__lengths, defScope s_CodeRow__lengths, [], []⟩
def d_StopRow__lengths_ : He.DefD := ⟨("StopRow", some "lengths"), "lengths", "CodeRow.lengths", defArgs s_CodeRow__lengths, defBody s_CodeRow__lengths, defScope s_CodeRow__lengths, [], []⟩
def d_DataRow__lengths_ : He.DefD := ⟨("DataRow", some "lengths"), "lengths", "Row.lengths", defArgs s_Row__lengths, defBody s_Row__lengths, defScope s_Row__lengths, [], []⟩
def d_NumbersRow__lengths_ : He.DefD := ⟨("NumbersRow", some "lengths"), "lengths", "NumbersRow.lengths", defArgs s_NumbersRow__lengths, defBody s_NumbersRow__lengths, defScope s_NumbersRow__lengths, [], []⟩
def d_TableRow__lengths_ : He.DefD := ⟨("TableRow", some "lengths"), "lengths", "TableRow.lengths", defArgs s_TableRow__lengths, defBody s_TableRow__lengths, defScope s_TableRow__lengths, [], []⟩
def d_Row__asked_ : He.DefD := ⟨("Row", some "asked"), "asked", "Row.asked", defArgs s_Row__asked, defBody s_Row__asked, defScope s_Row__asked, [], []⟩
def d_MarkRow__asked_ : He.DefD := ⟨("MarkRow", some "asked"), "asked", "Row.asked", defArgs s_Row__asked, defBody s_Row__asked, defScope s_Row__asked, [], []⟩
def d_CodeRow__asked_ : He.DefD := ⟨("CodeRow", some "asked"), "asked", "Row.asked", defArgs s_Row__asked, defBody s_Row__asked, defScope s_Row__asked, [], []⟩
def d_SetRow__asked_ : He.DefD := ⟨("SetRow", some "asked"), "asked", "Row.asked", defArgs s_Row__asked, defBody s_Row__asked, defScope s_Row__asked, [], []⟩
def d_AddRow__asked_ : He.DefD := ⟨("AddRow", some "asked"), "asked", "Row.asked", defArgs s_Row__asked, defBody s_Row__asked, defScope s_Row__asked, [], []⟩
def d_TakeRow__asked_ : He.DefD := ⟨("TakeRow", some "asked"), "asked", "Row.asked", defArgs s_Row__asked, defBody s_Row__asked, defScope s_Row__asked, [], []⟩
def d_SayRow__asked_ : He.DefD := ⟨("SayRow", some "asked"), "asked", "Row.asked", defArgs s_Row__asked, defBody s_Row__asked, defScope s_Row__asked, [], []⟩
def d_AskRow__asked_ : He.DefD := ⟨("AskRow", some "asked"), "asked", "Row.asked", defArgs s_Row__asked, defBody s_Row__asked, defScope s_Row__asked, [], []⟩
def d_AimRow__asked_ : He.DefD := ⟨("AimRow", some "asked"), "asked", "AimRow.asked", defArgs s_AimRow__asked, defBody s_AimRow__asked, defScope s_AimRow__asked, [], []⟩
def d_JumpRow__asked_ : He.DefD := ⟨("JumpRow", some "asked"), "asked", "AimRow.asked", defArgs s_AimRow__asked, defBody s_AimRow__asked, defScope s_AimRow__asked, [], []⟩
def d_JumpIfRow__asked_ : He.DefD := ⟨("JumpIfRow", some "asked"), "asked", "AimRow.asked", defArgs s_AimRow__asked, defBody s_AimRow__asked, defScope s_AimRow__asked, [], []⟩
def d_CallRow__asked_ : He.DefD := ⟨("CallRow", some "asked"), "asked", "AimRow.asked", defArgs s_AimRow__asked, defBody s_AimRow__asked, defScope s_AimRow__asked, [], []⟩
def d_LoadRow__asked_ : He.DefD := ⟨("LoadRow", some "asked"), "asked", "AimRow.asked", defArgs s_AimRow__asked, defBody s_AimRow__asked, defScope s_AimRow__asked, [], []⟩
def d_JumpByRow__asked_ : He.DefD := ⟨("JumpByRow", some "asked"), "asked", "AimRow.asked", defArgs s_AimRow__asked, defBody s_AimRow__asked, defScope s_AimRow__asked, [], []⟩
def d_AlikeRow__asked_ : He.DefD := ⟨("AlikeRow", some "asked"), "asked", "AlikeRow.asked", defArgs s_AlikeRow__asked, defBody s_AlikeRow__asked, defScope s_AlikeRow__asked, [], []⟩
def d_BackRow__asked_ : He.DefD := ⟨("BackRow", some "asked"), "asked", "Row.asked", defArgs s_Row__asked, defBody s_Row__asked, defScope s_Row__asked, [], []⟩
def d_StopRow__asked_ : He.DefD := ⟨("StopRow", some "asked"), "asked", "Row.asked", defArgs s_Row__asked, defBody s_Row__asked, defScope s_Row__asked, [], []⟩
def d_DataRow__asked_ : He.DefD := ⟨("DataRow", some "asked"), "asked", "Row.asked", defArgs s_Row__asked, defBody s_Row__asked, defScope s_Row__asked, [], []⟩
def d_NumbersRow__asked_ : He.DefD := ⟨("NumbersRow", some "asked"), "asked", "Row.asked", defArgs s_Row__asked, defBody s_Row__asked, defScope s_Row__asked, [], []⟩
def d_TableRow__asked_ : He.DefD := ⟨("TableRow", some "asked"), "asked", "TableRow.asked", defArgs s_TableRow__asked, defBody s_TableRow__asked, defScope s_TableRow__asked, [], []⟩
def d_Row__words_ : He.DefD := ⟨("Row", some "words"), "words", "Row.words", defArgs s_Row__words, defBody s_Row__words, defScope s_Row__words, [], []⟩
def d_MarkRow__words_ : He.DefD := ⟨("MarkRow", some "words"), "words", "Row.words", defArgs s_Row__words, defBody s_Row__words, defScope s_Row__words, [], []⟩
def d_CodeRow__words_ : He.DefD := ⟨("CodeRow", some "words"), "words", "Row.words", defArgs s_Row__words, defBody s_Row__words, defScope s_Row__words, [], []⟩
def d_SetRow__words_ : He.DefD := ⟨("SetRow", some "words"), "words", "Row.words", defArgs s_Row__words, defBody s_Row__words, defScope s_Row__words, [], []⟩
def d_AddRow__words_ : He.DefD := ⟨("AddRow", some "words"), "words", "Row.words", defArgs s_Row__words, defBody s_Row__words, defScope s_Row__words, [], []⟩
def d_TakeRow__words_ : He.DefD := ⟨("TakeRow", some "words"), "words", "Row.words", defArgs s_Row__words, defBody s_Row__words, defScope s_Row__words, [], []⟩
def d_SayRow__words_ : He.DefD := ⟨("SayRow", some "words"), "words", "Row.words", defArgs s_Row__words, defBody s_Row__words, defScope s_Row__words, [], []⟩
def d_AskRow__words_ : He.DefD := ⟨("AskRow", some "words"), "words", "Row.words", defArgs s_Row__words, defBody s_Row__words, defScope s_Row__words, [], []⟩
def d_AimRow__words_ : He.DefD := ⟨("AimRow", some "words"), "words", "Row.words", defArgs s_Row__words, defBody s_Row__words, defScope s_Row__words, [], []⟩
def d_JumpRow__words_ : He.DefD := ⟨("JumpRow", some "words"), "words", "Row.words", defArgs s_Row__words, defBody s_Row__words, defScope s_Row__words, [], []⟩
def d_JumpIfRow__words_ : He.DefD := ⟨("JumpIfRow", some "words"), "words", "Row.words", defArgs s_Row__words, defBody s_Row__words, defScope s_Row__words, [], []⟩
def d_CallRow__words_ : He.DefD := ⟨("CallRow", some "words"), "words", "Row.words", defArgs s_Row__words, defBody s_Row__words, defScope s_Row__words, [], []⟩
def d_LoadRow__words_ : He.DefD := ⟨("LoadRow", some "words"), "words", "Row.words", defArgs s_Row__words, defBody s_Row__words, defScope s_Row__words, [], []⟩
def d_JumpByRow__words_ : He.DefD := ⟨("JumpByRow", some "words"), "words", "Row.words", defArgs s_Row__words, defBody s_Row__words, defScope s_Row__words, [], []⟩
def d_AlikeRow__words_ : He.DefD := ⟨("AlikeRow", some "words"), "words", "Row.words", defArgs s_Row__words, defBody s_Row__words, defScope s_Row__words, [], []⟩
def d_BackRow__words_ : He.DefD := ⟨("BackRow", some "words"), "words", "Row.words", defArgs s_Row__words, defBody s_Row__words, defScope s_Row__words, [], []⟩
def d_StopRow__words_ : He.DefD := ⟨("StopRow", some "words"), "words", "Row.words", defArgs s_Row__words, defBody s_Row__words, defScope s_Row__words, [], []⟩
def d_DataRow__words_ : He.DefD := ⟨("DataRow", some "words"), "words", "DataRow.words", defArgs s_DataRow__words, defBody s_DataRow__words, defScope s_DataRow__words, [], []⟩
def d_NumbersRow__words_ : He.DefD := ⟨("NumbersRow", some "words"), "words", "DataRow.words", defArgs s_DataRow__words, defBody s_DataRow__words, defScope s_DataRow__words, [], []⟩
def d_TableRow__words_ : He.DefD := ⟨("TableRow", some "words"), "words", "DataRow.words", defArgs s_DataRow__words, defBody s_DataRow__words, defScope s_DataRow__words, [], []⟩
def d_Row__goes_on_ : He.DefD := ⟨("Row", some "goes_on"), "goes_on", "Row.goes_on", defArgs s_Row__goes_on, defBody s_Row__goes_on, defScope s_Row__goes_on, [], []⟩
def d_MarkRow__goes_on_ : He.DefD := ⟨("MarkRow", some "goes_on"), "goes_on", "Row.goes_on", defArgs s_Row__goes_on, defBody s_Row__goes_on, defScope s_Row__goes_on, [], []⟩
def d_CodeRow__goes_on_ : He.DefD := ⟨("CodeRow", some "goes_on"), "goes_on", "CodeRow.goes_on", defArgs s_CodeRow__goes_on, defBody s_CodeRow__goes_on, defScope s_CodeRow__goes_on, [], []⟩
def d_SetRow__goes_on_ : He.DefD := ⟨("SetRow", some "goes_on"), "goes_on", "CodeRow.goes_on", defArgs s_CodeRow__goes_on, defBody s_CodeRow__goes_on, defScope s_CodeRow__goes_on, [], []⟩
def d_AddRow__goes_on_ : He.DefD := ⟨("AddRow", some "goes_on"), "goes_on", "CodeRow.goes_on", defArgs s_CodeRow__goes_on, defBody s_CodeRow__goes_on, defScope s_CodeRow__goes_on, [], []⟩
def d_TakeRow__goes_on_ : He.DefD := ⟨("TakeRow", some "goes_on"), "goes_on", "CodeRow.goes_on", defArgs s_CodeRow__goes_on, defBody s_CodeRow__goes_on, defScope s_CodeRow__goes_on, [], []⟩
def d_SayRow__goes_on_ : He.DefD := ⟨("SayRow", some "goes_on"), "goes_on", "CodeRow.goes_on", defArgs s_CodeRow__goes_on, defBody s_CodeRow__goes_on, defScope s_CodeRow__goes_on, [], []⟩
def d_AskRow__goes_on_ : He.DefD := ⟨("AskRow", some "goes_on"), "goes_on", "CodeRow.goes_on", defArgs s_CodeRow__goes_on, defBody s_CodeRow__goes_on, defScope s_CodeRow__goes_on, [], []⟩
def d_AimRow__goes_on_ : He.DefD := ⟨("AimRow", some "goes_on"), "goes_on", "CodeRow.goes_on", defArgs s_CodeRow__goes_on, defBody s_CodeRow__goes_on, defScope s_CodeRow__goes_on, [], []⟩
def d_JumpRow__goes_on_ : He.DefD := ⟨("JumpRow", some "goes_on"), "goes_on", "JumpRow.goes_on", defArgs s_JumpRow__goes_on, defBody s_JumpRow__goes_on, defScope s_JumpRow__goes_on, [], []⟩
def d_JumpIfRow__goes_on_ : He.DefD := ⟨("JumpIfRow", some "goes_on"), "goes_on", "CodeRow.goes_on", defArgs s_CodeRow__goes_on, defBody s_CodeRow__goes_on, defScope s_CodeRow__goes_on, [], []⟩
def d_CallRow__goes_on_ : He.DefD := ⟨("CallRow", some "goes_on"), "goes_on", "CodeRow.goes_on", defArgs s_CodeRow__goes_on, defBody s_CodeRow__goes_on, defScope s_CodeRow__goes_on, [], []⟩
def d_LoadRow__goes_on_ : He.DefD := ⟨("LoadRow", some "goes_on"), "goes_on", "CodeRow.goes_on", defArgs s_CodeRow__goes_on, defBody s_CodeRow__goes_on, defScope s_CodeRow__goes_on, [], []⟩
def d_JumpByRow__goes_on_ : He.DefD := ⟨("JumpByRow", some "goes_on"), "goes_on", "JumpByRow.goes_on", defArgs s_JumpByRow__goes_on, defBody s_JumpByRow__goes_on, defScope s_JumpByRow__goes_on, [], []⟩
def d_AlikeRow__goes_on_ : He.DefD := ⟨("AlikeRow", some "goes_on"), "goes_on", "CodeRow.goes_on", defArgs s_CodeRow__goes_on, defBody s_CodeRow__goes_on, defScope s_CodeRow__goes_on, [], []⟩
def d_BackRow__goes_on_ : He.DefD := ⟨("BackRow", some "goes_on"), "goes_on", "BackRow.goes_on", defArgs s_BackRow__goes_on, defBody s_BackRow__goes_on, defScope s_BackRow__goes_on, [], []⟩
def d_StopRow__goes_on_ : He.DefD := ⟨("StopRow", some "goes_on"), "goes_on", "StopRow.goes_on", defArgs s_StopRow__goes_on, defBody s_StopRow__goes_on, defScope s_StopRow__goes_on, [], []⟩
def d_DataRow__goes_on_ : He.DefD := ⟨("DataRow", some "goes_on"), "goes_on", "Row.goes_on", defArgs s_Row__goes_on, defBody s_Row__goes_on, defScope s_Row__goes_on, [], []⟩
def d_NumbersRow__goes_on_ : He.DefD := ⟨("NumbersRow", some "goes_on"), "goes_on", "Row.goes_on", defArgs s_Row__goes_on, defBody s_Row__goes_on, defScope s_Row__goes_on, [], []⟩
def d_TableRow__goes_on_ : He.DefD := ⟨("TableRow", some "goes_on"), "goes_on", "Row.goes_on", defArgs s_Row__goes_on, defBody s_Row__goes_on, defScope s_Row__goes_on, [], []⟩
def d_StopRow____init___ : He.DefD := ⟨("StopRow", some "__init__"), "__init__", "Row.__init__", defArgs s_Row____init__, defBody s_Row____init__, defScope s_Row____init__, [], []⟩
def d_BackRow____init___ : He.DefD := ⟨("BackRow", some "__init__"), "__init__", "Row.__init__", defArgs s_Row____init__, defBody s_Row____init__, defScope s_Row____init__, [], []⟩
def d_AskRow____init___ : He.DefD := ⟨("AskRow", some "__init__"), "__init__", "Row.__init__", defArgs s_Row____init__, defBody s_Row____init__, defScope s_Row____init__, [], []⟩
def d_SayRow____init___ : He.DefD := ⟨("SayRow", some "__init__"), "__init__", "Row.__init__", defArgs s_Row____init__, defBody s_Row____init__, defScope s_Row____init__, [], []⟩
def d_TakeRow____init___ : He.DefD := ⟨("TakeRow", some "__init__"), "__init__", "Row.__init__", defArgs s_Row____init__, defBody s_Row____init__, defScope s_Row____init__, [], []⟩
def d_AddRow____init___ : He.DefD := ⟨("AddRow", some "__init__"), "__init__", "Row.__init__", defArgs s_Row____init__, defBody s_Row____init__, defScope s_Row____init__, [], []⟩
def d_LoadRow____init___ : He.DefD := ⟨("LoadRow", some "__init__"), "__init__", "Row.__init__", defArgs s_Row____init__, defBody s_Row____init__, defScope s_Row____init__, [], []⟩
def d_JumpByRow____init___ : He.DefD := ⟨("JumpByRow", some "__init__"), "__init__", "Row.__init__", defArgs s_Row____init__, defBody s_Row____init__, defScope s_Row____init__, [], []⟩
def d_JumpIfRow____init___ : He.DefD := ⟨("JumpIfRow", some "__init__"), "__init__", "Row.__init__", defArgs s_Row____init__, defBody s_Row____init__, defScope s_Row____init__, [], []⟩
def d_CallRow____init___ : He.DefD := ⟨("CallRow", some "__init__"), "__init__", "Row.__init__", defArgs s_Row____init__, defBody s_Row____init__, defScope s_Row____init__, [], []⟩
def d_JumpRow____init___ : He.DefD := ⟨("JumpRow", some "__init__"), "__init__", "Row.__init__", defArgs s_Row____init__, defBody s_Row____init__, defScope s_Row____init__, [], []⟩
def d_TableRow____init___ : He.DefD := ⟨("TableRow", some "__init__"), "__init__", "Row.__init__", defArgs s_Row____init__, defBody s_Row____init__, defScope s_Row____init__, [], []⟩
def d_NumbersRow____init___ : He.DefD := ⟨("NumbersRow", some "__init__"), "__init__", "Row.__init__", defArgs s_Row____init__, defBody s_Row____init__, defScope s_Row____init__, [], []⟩
def d_AlikeRow____init___ : He.DefD := ⟨("AlikeRow", some "__init__"), "__init__", "Row.__init__", defArgs s_Row____init__, defBody s_Row____init__, defScope s_Row____init__, [], []⟩
def d_SetRow____init___ : He.DefD := ⟨("SetRow", some "__init__"), "__init__", "Row.__init__", defArgs s_Row____init__, defBody s_Row____init__, defScope s_Row____init__, [], []⟩
def d_MarkRow____init___ : He.DefD := ⟨("MarkRow", some "__init__"), "__init__", "Row.__init__", defArgs s_Row____init__, defBody s_Row____init__, defScope s_Row____init__, [], []⟩
def d_DataRow____init___ : He.DefD := ⟨("DataRow", some "__init__"), "__init__", "Row.__init__", defArgs s_Row____init__, defBody s_Row____init__, defScope s_Row____init__, [], []⟩
def d_CodeRow____init___ : He.DefD := ⟨("CodeRow", some "__init__"), "__init__", "Row.__init__", defArgs s_Row____init__, defBody s_Row____init__, defScope s_Row____init__, [], []⟩
def d_Row____init___ : He.DefD := ⟨("Row", some "__init__"), "__init__", "Row.__init__", defArgs s_Row____init__, defBody s_Row____init__, defScope s_Row____init__, [], []⟩
def fn0 : List He.DefD := [d_is_word, d_is_box, d_is_plain, d_with_boxes, d_with_aim, d_with_list, d_row_of, d_lengths, d_asked_by, d__law_mixed, d__law_draws, d__law_name, d__law_number, d__law_list, d__law_told, d__law_due_names, d__law_due_lengths, d__law_kinds, d__law_tells, d__law_right, d_law, d_Row__lengths_, d_MarkRow__lengths_, d_CodeRow__lengths_, d_SetRow__lengths_, d_AddRow__lengths_, d_TakeRow__lengths_, d_SayRow__lengths_, d_AskRow__lengths_, d_AimRow__lengths_]
def fn1 : List He.DefD := [d_JumpRow__lengths_, d_JumpIfRow__lengths_, d_CallRow__lengths_, d_LoadRow__lengths_, d_JumpByRow__lengths_, d_AlikeRow__lengths_, d_BackRow__lengths_, d_StopRow__lengths_, d_DataRow__lengths_, d_NumbersRow__lengths_, d_TableRow__lengths_, d_Row__asked_, d_MarkRow__asked_, d_CodeRow__asked_, d_SetRow__asked_, d_AddRow__asked_, d_TakeRow__asked_, d_SayRow__asked_, d_AskRow__asked_, d_AimRow__asked_, d_JumpRow__asked_, d_JumpIfRow__asked_, d_CallRow__asked_, d_LoadRow__asked_, d_JumpByRow__asked_, d_AlikeRow__asked_, d_BackRow__asked_, d_StopRow__asked_, d_DataRow__asked_, d_NumbersRow__asked_]
def fn2 : List He.DefD := [d_TableRow__asked_, d_Row__words_, d_MarkRow__words_, d_CodeRow__words_, d_SetRow__words_, d_AddRow__words_, d_TakeRow__words_, d_SayRow__words_, d_AskRow__words_, d_AimRow__words_, d_JumpRow__words_, d_JumpIfRow__words_, d_CallRow__words_, d_LoadRow__words_, d_JumpByRow__words_, d_AlikeRow__words_, d_BackRow__words_, d_StopRow__words_, d_DataRow__words_, d_NumbersRow__words_, d_TableRow__words_, d_Row__goes_on_, d_MarkRow__goes_on_, d_CodeRow__goes_on_, d_SetRow__goes_on_, d_AddRow__goes_on_, d_TakeRow__goes_on_, d_SayRow__goes_on_, d_AskRow__goes_on_, d_AimRow__goes_on_]
def fn3 : List He.DefD := [d_JumpRow__goes_on_, d_JumpIfRow__goes_on_, d_CallRow__goes_on_, d_LoadRow__goes_on_, d_JumpByRow__goes_on_, d_AlikeRow__goes_on_, d_BackRow__goes_on_, d_StopRow__goes_on_, d_DataRow__goes_on_, d_NumbersRow__goes_on_, d_TableRow__goes_on_, d_StopRow____init___, d_BackRow____init___, d_AskRow____init___, d_SayRow____init___, d_TakeRow____init___, d_AddRow____init___, d_LoadRow____init___, d_JumpByRow____init___, d_JumpIfRow____init___, d_CallRow____init___, d_JumpRow____init___, d_TableRow____init___, d_NumbersRow____init___, d_AlikeRow____init___, d_SetRow____init___, d_MarkRow____init___, d_DataRow____init___, d_CodeRow____init___, d_Row____init___]
def fn : List He.DefD := fn0 ++ fn1 ++ fn2 ++ fn3
def fa0 : List He.Fa := [.glo "is_word", .glo "is_box", .glo "is_plain", .glo "with_boxes", .glo "with_aim", .glo "with_list", .glo "row_of", .glo "lengths", .glo "asked_by", .glo "_law_mixed", .glo "_law_draws", .glo "_law_name", .glo "_law_number", .glo "_law_list", .glo "_law_told", .glo "_law_due_names", .glo "_law_due_lengths", .glo "_law_kinds", .glo "_law_tells", .glo "_law_right", .glo "law", .glo "Row", .cls "Row", .glo "MarkRow", .cls "MarkRow", .glo "CodeRow", .cls "CodeRow", .glo "SetRow", .cls "SetRow", .glo "AddRow"]
def fa1 : List He.Fa := [.cls "AddRow", .glo "TakeRow", .cls "TakeRow", .glo "SayRow", .cls "SayRow", .glo "AskRow", .cls "AskRow", .glo "AimRow", .cls "AimRow", .glo "JumpRow", .cls "JumpRow", .glo "JumpIfRow", .cls "JumpIfRow", .glo "CallRow", .cls "CallRow", .glo "LoadRow", .cls "LoadRow", .glo "JumpByRow", .cls "JumpByRow", .glo "AlikeRow", .cls "AlikeRow", .glo "BackRow", .cls "BackRow", .glo "StopRow", .cls "StopRow", .glo "DataRow", .cls "DataRow", .glo "NumbersRow", .cls "NumbersRow", .glo "TableRow"]
def fa2 : List He.Fa := [.cls "TableRow", .noat "Row" "told", .noat "MarkRow" "told", .noat "CodeRow" "told", .noat "SetRow" "told", .noat "AddRow" "told", .noat "TakeRow" "told", .noat "SayRow" "told", .noat "AskRow" "told", .noat "AimRow" "told", .noat "JumpRow" "told", .noat "JumpIfRow" "told", .noat "CallRow" "told", .noat "LoadRow" "told", .noat "JumpByRow" "told", .noat "AlikeRow" "told", .noat "BackRow" "told", .noat "StopRow" "told", .noat "DataRow" "told", .noat "NumbersRow" "told", .noat "TableRow" "told", .meth "Row" "lengths", .meth "MarkRow" "lengths", .meth "CodeRow" "lengths", .meth "SetRow" "lengths", .meth "AddRow" "lengths", .meth "TakeRow" "lengths", .meth "SayRow" "lengths", .meth "AskRow" "lengths", .meth "AimRow" "lengths"]
def fa3 : List He.Fa := [.meth "JumpRow" "lengths", .meth "JumpIfRow" "lengths", .meth "CallRow" "lengths", .meth "LoadRow" "lengths", .meth "JumpByRow" "lengths", .meth "AlikeRow" "lengths", .meth "BackRow" "lengths", .meth "StopRow" "lengths", .meth "DataRow" "lengths", .meth "NumbersRow" "lengths", .meth "TableRow" "lengths", .meth "Row" "asked", .meth "MarkRow" "asked", .meth "CodeRow" "asked", .meth "SetRow" "asked", .meth "AddRow" "asked", .meth "TakeRow" "asked", .meth "SayRow" "asked", .meth "AskRow" "asked", .meth "AimRow" "asked", .meth "JumpRow" "asked", .meth "JumpIfRow" "asked", .meth "CallRow" "asked", .meth "LoadRow" "asked", .meth "JumpByRow" "asked", .meth "AlikeRow" "asked", .meth "BackRow" "asked", .meth "StopRow" "asked", .meth "DataRow" "asked", .meth "NumbersRow" "asked"]
def fa4 : List He.Fa := [.meth "TableRow" "asked", .meth "Row" "words", .meth "MarkRow" "words", .meth "CodeRow" "words", .meth "SetRow" "words", .meth "AddRow" "words", .meth "TakeRow" "words", .meth "SayRow" "words", .meth "AskRow" "words", .meth "AimRow" "words", .meth "JumpRow" "words", .meth "JumpIfRow" "words", .meth "CallRow" "words", .meth "LoadRow" "words", .meth "JumpByRow" "words", .meth "AlikeRow" "words", .meth "BackRow" "words", .meth "StopRow" "words", .meth "DataRow" "words", .meth "NumbersRow" "words", .meth "TableRow" "words", .meth "Row" "goes_on", .meth "MarkRow" "goes_on", .meth "CodeRow" "goes_on", .meth "SetRow" "goes_on", .meth "AddRow" "goes_on", .meth "TakeRow" "goes_on", .meth "SayRow" "goes_on", .meth "AskRow" "goes_on", .meth "AimRow" "goes_on"]
def fa5 : List He.Fa := [.meth "JumpRow" "goes_on", .meth "JumpIfRow" "goes_on", .meth "CallRow" "goes_on", .meth "LoadRow" "goes_on", .meth "JumpByRow" "goes_on", .meth "AlikeRow" "goes_on", .meth "BackRow" "goes_on", .meth "StopRow" "goes_on", .meth "DataRow" "goes_on", .meth "NumbersRow" "goes_on", .meth "TableRow" "goes_on", .mkr "StopRow", .mkr "BackRow", .mkr "AskRow", .mkr "SayRow", .mkr "TakeRow", .mkr "AddRow", .mkr "LoadRow", .mkr "JumpByRow", .mkr "JumpIfRow", .mkr "CallRow", .mkr "JumpRow", .mkr "TableRow", .mkr "NumbersRow", .mkr "AlikeRow", .mkr "SetRow", .mkr "MarkRow", .mkr "DataRow", .mkr "CodeRow", .mkr "Row"]
def fa6 : List He.Fa := [.free "all", .str "SMALL" "abcdefghijklmnopqrstuvwxyz", .free "len", .int "MOST_LETTERS" 8, .free "isinstance", .free "str", .int "BOXES" 4, .free "bool", .free "int", .int "LEAST" (-2147483648), .int "GREATEST" 2147483647, .free "list", .int "MOST_DATA" 60, .free "tuple", .free "range", .free "enumerate"]
def fa : List He.Fa := fa0 ++ fa1 ++ fa2 ++ fa3 ++ fa4 ++ fa5 ++ fa6
abbrev R : PySem.W.OpenRow := PySem.W.OpenLaw.row PySem.Challenge.rw_farjump_k02_rows_told
def ts : List He.Tab := []
def ex (K : PySem.W.Frag) : Bool := isiB K CN "DataRow" [17, 18, 19] && isiB K CN "CodeRow" [2, 3, 4, 5, 6, 7, 8, 9, 10, 11, 12, 13, 14, 15, 16] && isiB K CN "MarkRow" [1] && isiB K CN "Row" [0, 1, 2, 3, 4, 5, 6, 7, 8, 9, 10, 11, 12, 13, 14, 15, 16, 17, 18, 19]
abbrev hk : PySem.W.Hook := He.hookX 5 fa fn ts [] ex
def ob (s : PySem.W.SharedT) : He.AlX := He.obsX 5 fa fn ts [] ex (HandSHeadRun.getT s)
theorem ob_eq (s : PySem.W.SharedT) : ob s = hk.obs s.abs := He.obsX_eq (HandSHeadRun.getT_eq s)
def loose0 : List Str := ["_wall", "__name__", "SMALL", "MOST_LETTERS", "is_word", "BOXES", "LEAST", "GREATEST", "MOST_DATA", "MOST_KEPT", "is_box", "is_plain", "Row", "MarkRow", "CodeRow", "SetRow", "AddRow", "TakeRow", "SayRow", "AskRow", "AimRow", "JumpRow", "JumpIfRow", "CallRow", "LoadRow", "JumpByRow", "AlikeRow", "BackRow", "StopRow", "DataRow"]
def loose1 : List Str := ["NumbersRow", "TableRow", "with_boxes", "with_aim", "with_list", "row_of", "lengths", "asked_by", "_law_mixed", "_law_draws", "_law_name", "_law_number", "_law_list", "_law_told", "_law_due_names", "_law_due_lengths", "_law_kinds", "_law_tells", "_law_right"]
def loose : List Str := loose0 ++ loose1
theorem run (w : World) : HandSHeadRun.RunEq R (PySem.W.view R.prog [51]) hk ob 40000 loose w := by
  intro os
  kernel_rfl
theorem facts {P : Program} {w : World} {K : PySem.W.Frag} {h : Heap} {mg : Str → Option Value} {f : Addr} (X : K.In h) (G : h.Ns mainGlobals mg) (hfa : mg ("law" : Str) = some (.ref f)) (c0 : He.SaysX fa fn ts [] ex w h K) :
    ∃ fd : FuncData, (∀ (s : Shared) (v : Value), BindsTo s fd ⟨[v], []⟩ [("_law_script", v)]) ∧ ∀ base : Heap, K.In base → base.Ns mainGlobals mg → FnOk P w K mg base CX0 8 f fd ["_law_script"] (spFn (CtOf K w CN CF) F_law) := by
  have c := c0.t.d
  have cx := c0.more
  simp only [ex, Bool.and_eq_true] at cx
  obtain ⟨⟨⟨cx0, cx1⟩, cx2⟩, cx3⟩ := cx
  obtain ⟨fd0, D0⟩ := c.def_ 0 (d := d_is_word) rfl
  obtain ⟨fd1, D1⟩ := c.def_ 1 (d := d_is_box) rfl
  obtain ⟨fd2, D2⟩ := c.def_ 2 (d := d_is_plain) rfl
  obtain ⟨fd3, D3⟩ := c.def_ 3 (d := d_with_boxes) rfl
  obtain ⟨fd4, D4⟩ := c.def_ 4 (d := d_with_aim) rfl
  obtain ⟨fd5, D5⟩ := c.def_ 5 (d := d_with_list) rfl
  obtain ⟨fd6, D6⟩ := c.def_ 6 (d := d_row_of) rfl
  obtain ⟨fd7, D7⟩ := c.def_ 7 (d := d_lengths) rfl
  obtain ⟨fd8, D8⟩ := c.def_ 8 (d := d_asked_by) rfl
  obtain ⟨fd9, D9⟩ := c.def_ 9 (d := d__law_mixed) rfl
  obtain ⟨fd10, D10⟩ := c.def_ 10 (d := d__law_draws) rfl
  obtain ⟨fd11, D11⟩ := c.def_ 11 (d := d__law_name) rfl
  obtain ⟨fd12, D12⟩ := c.def_ 12 (d := d__law_number) rfl
  obtain ⟨fd13, D13⟩ := c.def_ 13 (d := d__law_list) rfl
  obtain ⟨fd14, D14⟩ := c.def_ 14 (d := d__law_told) rfl
  obtain ⟨fd15, D15⟩ := c.def_ 15 (d := d__law_due_names) rfl
  obtain ⟨fd16, D16⟩ := c.def_ 16 (d := d__law_due_lengths) rfl
  obtain ⟨fd17, D17⟩ := c.def_ 17 (d := d__law_kinds) rfl
  obtain ⟨fd18, D18⟩ := c.def_ 18 (d := d__law_tells) rfl
  obtain ⟨fd19, D19⟩ := c.def_ 19 (d := d__law_right) rfl
  obtain ⟨fd20, D20⟩ := c.def_ 20 (d := d_law) rfl
  obtain ⟨fd21, D21⟩ := c.def_ 21 (d := d_Row__lengths_) rfl
  obtain ⟨fd22, D22⟩ := c.def_ 22 (d := d_MarkRow__lengths_) rfl
  obtain ⟨fd23, D23⟩ := c.def_ 23 (d := d_CodeRow__lengths_) rfl
  obtain ⟨fd24, D24⟩ := c.def_ 24 (d := d_SetRow__lengths_) rfl
  obtain ⟨fd25, D25⟩ := c.def_ 25 (d := d_AddRow__lengths_) rfl
  obtain ⟨fd26, D26⟩ := c.def_ 26 (d := d_TakeRow__lengths_) rfl
  obtain ⟨fd27, D27⟩ := c.def_ 27 (d := d_SayRow__lengths_) rfl
  obtain ⟨fd28, D28⟩ := c.def_ 28 (d := d_AskRow__lengths_) rfl
  obtain ⟨fd29, D29⟩ := c.def_ 29 (d := d_AimRow__lengths_) rfl
  obtain ⟨fd30, D30⟩ := c.def_ 30 (d := d_JumpRow__lengths_) rfl
  obtain ⟨fd31, D31⟩ := c.def_ 31 (d := d_JumpIfRow__lengths_) rfl
  obtain ⟨fd32, D32⟩ := c.def_ 32 (d := d_CallRow__lengths_) rfl
  obtain ⟨fd33, D33⟩ := c.def_ 33 (d := d_LoadRow__lengths_) rfl
  obtain ⟨fd34, D34⟩ := c.def_ 34 (d := d_JumpByRow__lengths_) rfl
  obtain ⟨fd35, D35⟩ := c.def_ 35 (d := d_AlikeRow__lengths_) rfl
  obtain ⟨fd36, D36⟩ := c.def_ 36 (d := d_BackRow__lengths_) rfl
  obtain ⟨fd37, D37⟩ := c.def_ 37 (d := d_StopRow__lengths_) rfl
  obtain ⟨fd38, D38⟩ := c.def_ 38 (d := d_DataRow__lengths_) rfl
  obtain ⟨fd39, D39⟩ := c.def_ 39 (d := d_NumbersRow__lengths_) rfl
  obtain ⟨fd40, D40⟩ := c.def_ 40 (d := d_TableRow__lengths_) rfl
  obtain ⟨fd41, D41⟩ := c.def_ 41 (d := d_Row__asked_) rfl
  obtain ⟨fd42, D42⟩ := c.def_ 42 (d := d_MarkRow__asked_) rfl
  obtain ⟨fd43, D43⟩ := c.def_ 43 (d := d_CodeRow__asked_) rfl
  obtain ⟨fd44, D44⟩ := c.def_ 44 (d := d_SetRow__asked_) rfl
  obtain ⟨fd45, D45⟩ := c.def_ 45 (d := d_AddRow__asked_) rfl
  obtain ⟨fd46, D46⟩ := c.def_ 46 (d := d_TakeRow__asked_) rfl
  obtain ⟨fd47, D47⟩ := c.def_ 47 (d := d_SayRow__asked_) rfl
  obtain ⟨fd48, D48⟩ := c.def_ 48 (d := d_AskRow__asked_) rfl
  obtain ⟨fd49, D49⟩ := c.def_ 49 (d := d_AimRow__asked_) rfl
  obtain ⟨fd50, D50⟩ := c.def_ 50 (d := d_JumpRow__asked_) rfl
  obtain ⟨fd51, D51⟩ := c.def_ 51 (d := d_JumpIfRow__asked_) rfl
  obtain ⟨fd52, D52⟩ := c.def_ 52 (d := d_CallRow__asked_) rfl
  obtain ⟨fd53, D53⟩ := c.def_ 53 (d := d_LoadRow__asked_) rfl
  obtain ⟨fd54, D54⟩ := c.def_ 54 (d := d_JumpByRow__asked_) rfl
  obtain ⟨fd55, D55⟩ := c.def_ 55 (d := d_AlikeRow__asked_) rfl
  obtain ⟨fd56, D56⟩ := c.def_ 56 (d := d_BackRow__asked_) rfl
  obtain ⟨fd57, D57⟩ := c.def_ 57 (d := d_StopRow__asked_) rfl
  obtain ⟨fd58, D58⟩ := c.def_ 58 (d := d_DataRow__asked_) rfl
  obtain ⟨fd59, D59⟩ := c.def_ 59 (d := d_NumbersRow__asked_) rfl
  obtain ⟨fd60, D60⟩ := c.def_ 60 (d := d_TableRow__asked_) rfl
  obtain ⟨fd61, D61⟩ := c.def_ 61 (d := d_Row__words_) rfl
  obtain ⟨fd62, D62⟩ := c.def_ 62 (d := d_MarkRow__words_) rfl
  obtain ⟨fd63, D63⟩ := c.def_ 63 (d := d_CodeRow__words_) rfl
  obtain ⟨fd64, D64⟩ := c.def_ 64 (d := d_SetRow__words_) rfl
  obtain ⟨fd65, D65⟩ := c.def_ 65 (d := d_AddRow__words_) rfl
  obtain ⟨fd66, D66⟩ := c.def_ 66 (d := d_TakeRow__words_) rfl
  obtain ⟨fd67, D67⟩ := c.def_ 67 (d := d_SayRow__words_) rfl
  obtain ⟨fd68, D68⟩ := c.def_ 68 (d := d_AskRow__words_) rfl
  obtain ⟨fd69, D69⟩ := c.def_ 69 (d := d_AimRow__words_) rfl
  obtain ⟨fd70, D70⟩ := c.def_ 70 (d := d_JumpRow__words_) rfl
  obtain ⟨fd71, D71⟩ := c.def_ 71 (d := d_JumpIfRow__words_) rfl
  obtain ⟨fd72, D72⟩ := c.def_ 72 (d := d_CallRow__words_) rfl
  obtain ⟨fd73, D73⟩ := c.def_ 73 (d := d_LoadRow__words_) rfl
  obtain ⟨fd74, D74⟩ := c.def_ 74 (d := d_JumpByRow__words_) rfl
  obtain ⟨fd75, D75⟩ := c.def_ 75 (d := d_AlikeRow__words_) rfl
  obtain ⟨fd76, D76⟩ := c.def_ 76 (d := d_BackRow__words_) rfl
  obtain ⟨fd77, D77⟩ := c.def_ 77 (d := d_StopRow__words_) rfl
  obtain ⟨fd78, D78⟩ := c.def_ 78 (d := d_DataRow__words_) rfl
  obtain ⟨fd79, D79⟩ := c.def_ 79 (d := d_NumbersRow__words_) rfl
  obtain ⟨fd80, D80⟩ := c.def_ 80 (d := d_TableRow__words_) rfl
  obtain ⟨fd81, D81⟩ := c.def_ 81 (d := d_Row__goes_on_) rfl
  obtain ⟨fd82, D82⟩ := c.def_ 82 (d := d_MarkRow__goes_on_) rfl
  obtain ⟨fd83, D83⟩ := c.def_ 83 (d := d_CodeRow__goes_on_) rfl
  obtain ⟨fd84, D84⟩ := c.def_ 84 (d := d_SetRow__goes_on_) rfl
  obtain ⟨fd85, D85⟩ := c.def_ 85 (d := d_AddRow__goes_on_) rfl
  obtain ⟨fd86, D86⟩ := c.def_ 86 (d := d_TakeRow__goes_on_) rfl
  obtain ⟨fd87, D87⟩ := c.def_ 87 (d := d_SayRow__goes_on_) rfl
  obtain ⟨fd88, D88⟩ := c.def_ 88 (d := d_AskRow__goes_on_) rfl
  obtain ⟨fd89, D89⟩ := c.def_ 89 (d := d_AimRow__goes_on_) rfl
  obtain ⟨fd90, D90⟩ := c.def_ 90 (d := d_JumpRow__goes_on_) rfl
  obtain ⟨fd91, D91⟩ := c.def_ 91 (d := d_JumpIfRow__goes_on_) rfl
  obtain ⟨fd92, D92⟩ := c.def_ 92 (d := d_CallRow__goes_on_) rfl
  obtain ⟨fd93, D93⟩ := c.def_ 93 (d := d_LoadRow__goes_on_) rfl
  obtain ⟨fd94, D94⟩ := c.def_ 94 (d := d_JumpByRow__goes_on_) rfl
  obtain ⟨fd95, D95⟩ := c.def_ 95 (d := d_AlikeRow__goes_on_) rfl
  obtain ⟨fd96, D96⟩ := c.def_ 96 (d := d_BackRow__goes_on_) rfl
  obtain ⟨fd97, D97⟩ := c.def_ 97 (d := d_StopRow__goes_on_) rfl
  obtain ⟨fd98, D98⟩ := c.def_ 98 (d := d_DataRow__goes_on_) rfl
  obtain ⟨fd99, D99⟩ := c.def_ 99 (d := d_NumbersRow__goes_on_) rfl
  obtain ⟨fd100, D100⟩ := c.def_ 100 (d := d_TableRow__goes_on_) rfl
  obtain ⟨fd101, D101⟩ := c.def_ 101 (d := d_StopRow____init___) rfl
  obtain ⟨fd102, D102⟩ := c.def_ 102 (d := d_BackRow____init___) rfl
  obtain ⟨fd103, D103⟩ := c.def_ 103 (d := d_AskRow____init___) rfl
  obtain ⟨fd104, D104⟩ := c.def_ 104 (d := d_SayRow____init___) rfl
  obtain ⟨fd105, D105⟩ := c.def_ 105 (d := d_TakeRow____init___) rfl
  obtain ⟨fd106, D106⟩ := c.def_ 106 (d := d_AddRow____init___) rfl
  obtain ⟨fd107, D107⟩ := c.def_ 107 (d := d_LoadRow____init___) rfl
  obtain ⟨fd108, D108⟩ := c.def_ 108 (d := d_JumpByRow____init___) rfl
  obtain ⟨fd109, D109⟩ := c.def_ 109 (d := d_JumpIfRow____init___) rfl
  obtain ⟨fd110, D110⟩ := c.def_ 110 (d := d_CallRow____init___) rfl
  obtain ⟨fd111, D111⟩ := c.def_ 111 (d := d_JumpRow____init___) rfl
  obtain ⟨fd112, D112⟩ := c.def_ 112 (d := d_TableRow____init___) rfl
  obtain ⟨fd113, D113⟩ := c.def_ 113 (d := d_NumbersRow____init___) rfl
  obtain ⟨fd114, D114⟩ := c.def_ 114 (d := d_AlikeRow____init___) rfl
  obtain ⟨fd115, D115⟩ := c.def_ 115 (d := d_SetRow____init___) rfl
  obtain ⟨fd116, D116⟩ := c.def_ 116 (d := d_MarkRow____init___) rfl
  obtain ⟨fd117, D117⟩ := c.def_ 117 (d := d_DataRow____init___) rfl
  obtain ⟨fd118, D118⟩ := c.def_ 118 (d := d_CodeRow____init___) rfl
  obtain ⟨fd119, D119⟩ := c.def_ 119 (d := d_Row____init___) rfl
  have e := hfa.symm.trans (He.glo_ok X G (c.fact 20 (f := .glo "law") rfl))
  cases e
  have b := FunD.bindsA (ps := ["_law_script"]) D20 fun _ _ _ _ _ _ us hl => match us, hl with | [_], _ => rfl
  refine ⟨fd20, fun s v => b s [v] rfl, fun base _ _ => ?_⟩
  have FL : ∀ m q i, flT m q = some i → FOk K (CtOf K w CN CF) q m i := by
    refine fl_ok (CN := CN) (CF := CF) rfl ?_
    simp only [CN, CF, List.zip_cons_cons, List.zip_nil_right, List.zip_nil_left, List.forall_mem_cons, List.not_mem_nil, false_implies, implies_true, and_true]
    exact ⟨⟨He.cls_ok (c.fact 22 (f := .cls "Row") rfl), by decide +kernel, by decide +kernel, He.noat_ok (c.fact 61 (f := .noat "Row" "told") rfl)⟩, ⟨He.cls_ok (c.fact 24 (f := .cls "MarkRow") rfl), by decide +kernel, by decide +kernel, He.noat_ok (c.fact 62 (f := .noat "MarkRow" "told") rfl)⟩, ⟨He.cls_ok (c.fact 26 (f := .cls "CodeRow") rfl), by decide +kernel, by decide +kernel, He.noat_ok (c.fact 63 (f := .noat "CodeRow" "told") rfl)⟩, ⟨He.cls_ok (c.fact 28 (f := .cls "SetRow") rfl), by decide +kernel, by decide +kernel, He.noat_ok (c.fact 64 (f := .noat "SetRow" "told") rfl)⟩, ⟨He.cls_ok (c.fact 30 (f := .cls "AddRow") rfl), by decide +kernel, by decide +kernel, He.noat_ok (c.fact 65 (f := .noat "AddRow" "told") rfl)⟩, ⟨He.cls_ok (c.fact 32 (f := .cls "TakeRow") rfl), by decide +kernel, by decide +kernel, He.noat_ok (c.fact 66 (f := .noat "TakeRow" "told") rfl)⟩, ⟨He.cls_ok (c.fact 34 (f := .cls "SayRow") rfl), by decide +kernel, by decide +kernel, He.noat_ok (c.fact 67 (f := .noat "SayRow" "told") rfl)⟩, ⟨He.cls_ok (c.fact 36 (f := .cls "AskRow") rfl), by decide +kernel, by decide +kernel, He.noat_ok (c.fact 68 (f := .noat "AskRow" "told") rfl)⟩, ⟨He.cls_ok (c.fact 38 (f := .cls "AimRow") rfl), by decide +kernel, by decide +kernel, He.noat_ok (c.fact 69 (f := .noat "AimRow" "told") rfl)⟩, ⟨He.cls_ok (c.fact 40 (f := .cls "JumpRow") rfl), by decide +kernel, by decide +kernel, He.noat_ok (c.fact 70 (f := .noat "JumpRow" "told") rfl)⟩, ⟨He.cls_ok (c.fact 42 (f := .cls "JumpIfRow") rfl), by decide +kernel, by decide +kernel, He.noat_ok (c.fact 71 (f := .noat "JumpIfRow" "told") rfl)⟩, ⟨He.cls_ok (c.fact 44 (f := .cls "CallRow") rfl), by decide +kernel, by decide +kernel, He.noat_ok (c.fact 72 (f := .noat "CallRow" "told") rfl)⟩, ⟨He.cls_ok (c.fact 46 (f := .cls "LoadRow") rfl), by decide +kernel, by decide +kernel, He.noat_ok (c.fact 73 (f := .noat "LoadRow" "told") rfl)⟩, ⟨He.cls_ok (c.fact 48 (f := .cls "JumpByRow") rfl), by decide +kernel, by decide +kernel, He.noat_ok (c.fact 74 (f := .noat "JumpByRow" "told") rfl)⟩, ⟨He.cls_ok (c.fact 50 (f := .cls "AlikeRow") rfl), by decide +kernel, by decide +kernel, He.noat_ok (c.fact 75 (f := .noat "AlikeRow" "told") rfl)⟩, ⟨He.cls_ok (c.fact 52 (f := .cls "BackRow") rfl), by decide +kernel, by decide +kernel, He.noat_ok (c.fact 76 (f := .noat "BackRow" "told") rfl)⟩, ⟨He.cls_ok (c.fact 54 (f := .cls "StopRow") rfl), by decide +kernel, by decide +kernel, He.noat_ok (c.fact 77 (f := .noat "StopRow" "told") rfl)⟩, ⟨He.cls_ok (c.fact 56 (f := .cls "DataRow") rfl), by decide +kernel, by decide +kernel, He.noat_ok (c.fact 78 (f := .noat "DataRow" "told") rfl)⟩, ⟨He.cls_ok (c.fact 58 (f := .cls "NumbersRow") rfl), by decide +kernel, by decide +kernel, He.noat_ok (c.fact 79 (f := .noat "NumbersRow" "told") rfl)⟩, ⟨He.cls_ok (c.fact 60 (f := .cls "TableRow") rfl), by decide +kernel, by decide +kernel, He.noat_ok (c.fact 80 (f := .noat "TableRow" "told") rfl)⟩⟩
  have T_is_word : ∀ p ∈ t_is_word, GOk P w K mg base (CtOf K w CN CF) 0 p.1 p.2 := by
    unfold t_is_word
    simp only [List.forall_mem_cons, List.not_mem_nil, false_implies, implies_true, and_true]
    exact ⟨He.free_ok X G (c.fact 180 (f := .free "all") rfl), gok_str (He.str_ok X G (c.fact 181 (f := .str "SMALL" "abcdefghijklmnopqrstuvwxyz") rfl)), He.free_ok X G (c.fact 182 (f := .free "len") rfl), gok_int (He.int_ok X G (c.fact 183 (f := .int "MOST_LETTERS" 8) rfl)), He.free_ok X G (c.fact 184 (f := .free "isinstance") rfl), He.free_ok X G (c.fact 185 (f := .free "str") rfl)⟩
  have M_is_word : ∀ m io tb, msOf m_is_word m = some (io, tb) → ∀ q f, tb q = some f → f.io = io ∧ MOk P w K mg base (CtOf K w CN CF) 0 q m f := by
    refine ms_ok ?_
    unfold m_is_word
    intro e he; cases he
  have fn_0 : FnOk P w K mg base CX0 1 _ fd0 ["thing"] (spFn (CtOf K w CN CF) F_is_word) := fn_ok (k := 0) D0 sc_is_word rfl ⟨rfl, rfl⟩ k_is_word rfl (by decide) (tab_ok T_is_word) FL M_is_word
  have bd_0 : Binds K fd0 ["thing"] [] := D0.bindsN (fun _ _ _ _ _ _ us hl => match us, hl with | [_], _ => rfl)
  have g_is_word : GOk P w K mg base (CtOf K w CN CF) 1 "is_word" (.fn F_is_word) := ⟨_, _, _, He.glo_ok X G (c.fact 0 (f := .glo "is_word") rfl), fn_0, D0.kp, bd_0⟩
  have T_is_box : ∀ p ∈ t_is_box, GOk P w K mg base (CtOf K w CN CF) 0 p.1 p.2 := by
    unfold t_is_box
    simp only [List.forall_mem_cons, List.not_mem_nil, false_implies, implies_true, and_true]
    exact ⟨gok_int (He.int_ok X G (c.fact 186 (f := .int "BOXES" 4) rfl)), He.free_ok X G (c.fact 184 (f := .free "isinstance") rfl), He.free_ok X G (c.fact 187 (f := .free "bool") rfl), He.free_ok X G (c.fact 188 (f := .free "int") rfl)⟩
  have M_is_box : ∀ m io tb, msOf m_is_box m = some (io, tb) → ∀ q f, tb q = some f → f.io = io ∧ MOk P w K mg base (CtOf K w CN CF) 0 q m f := by
    refine ms_ok ?_
    unfold m_is_box
    intro e he; cases he
  have fn_1 : FnOk P w K mg base CX0 1 _ fd1 ["thing"] (spFn (CtOf K w CN CF) F_is_box) := fn_ok (k := 0) D1 sc_is_box rfl ⟨rfl, rfl⟩ k_is_box rfl (by decide) (tab_ok T_is_box) FL M_is_box
  have bd_1 : Binds K fd1 ["thing"] [] := D1.bindsN (fun _ _ _ _ _ _ us hl => match us, hl with | [_], _ => rfl)
  have g_is_box : GOk P w K mg base (CtOf K w CN CF) 1 "is_box" (.fn F_is_box) := ⟨_, _, _, He.glo_ok X G (c.fact 1 (f := .glo "is_box") rfl), fn_1, D1.kp, bd_1⟩
  have T_is_plain : ∀ p ∈ t_is_plain, GOk P w K mg base (CtOf K w CN CF) 0 p.1 p.2 := by
    unfold t_is_plain
    simp only [List.forall_mem_cons, List.not_mem_nil, false_implies, implies_true, and_true]
    exact ⟨gok_int (He.int_ok X G (c.fact 189 (f := .int "LEAST" (-2147483648)) rfl)), gok_int (He.int_ok X G (c.fact 190 (f := .int "GREATEST" 2147483647) rfl)), He.free_ok X G (c.fact 184 (f := .free "isinstance") rfl), He.free_ok X G (c.fact 187 (f := .free "bool") rfl), He.free_ok X G (c.fact 188 (f := .free "int") rfl)⟩
  have M_is_plain : ∀ m io tb, msOf m_is_plain m = some (io, tb) → ∀ q f, tb q = some f → f.io = io ∧ MOk P w K mg base (CtOf K w CN CF) 0 q m f := by
    refine ms_ok ?_
    unfold m_is_plain
    intro e he; cases he
  have fn_2 : FnOk P w K mg base CX0 1 _ fd2 ["thing"] (spFn (CtOf K w CN CF) F_is_plain) := fn_ok (k := 0) D2 sc_is_plain rfl ⟨rfl, rfl⟩ k_is_plain rfl (by decide) (tab_ok T_is_plain) FL M_is_plain
  have bd_2 : Binds K fd2 ["thing"] [] := D2.bindsN (fun _ _ _ _ _ _ us hl => match us, hl with | [_], _ => rfl)
  have g_is_plain : GOk P w K mg base (CtOf K w CN CF) 1 "is_plain" (.fn F_is_plain) := ⟨_, _, _, He.glo_ok X G (c.fact 2 (f := .glo "is_plain") rfl), fn_2, D2.kp, bd_2⟩
  have T_Row____init__ : ∀ p ∈ t_Row____init__, GOk P w K mg base (CtOf K w CN CF) 0 p.1 p.2 := by
    unfold t_Row____init__
    intro p hp; cases hp
  have M_Row____init__ : ∀ m io tb, msOf m_Row____init__ m = some (io, tb) → ∀ q f, tb q = some f → f.io = io ∧ MOk P w K mg base (CtOf K w CN CF) 0 q m f := by
    refine ms_ok ?_
    unfold m_Row____init__
    intro e he; cases he
  have fn_101 : FnOk P w K mg base CX0 1 _ fd101 ["self", "told"] (spFn (CtOf K w CN CF) F_Row____init__) := fn_ok (k := 0) D101 sc_Row____init__ rfl ⟨rfl, rfl⟩ k_Row____init__ rfl (by decide) (tab_ok T_Row____init__) FL M_Row____init__
  have bd_101 : Binds K fd101 ["self", "told"] [] := D101.bindsN (fun _ _ _ _ _ _ us hl => match us, hl with | [_, _], _ => rfl)
  have fn_102 : FnOk P w K mg base CX0 1 _ fd102 ["self", "told"] (spFn (CtOf K w CN CF) F_Row____init__) := fn_ok (k := 0) D102 sc_Row____init__ rfl ⟨rfl, rfl⟩ k_Row____init__ rfl (by decide) (tab_ok T_Row____init__) FL M_Row____init__
  have bd_102 : Binds K fd102 ["self", "told"] [] := D102.bindsN (fun _ _ _ _ _ _ us hl => match us, hl with | [_, _], _ => rfl)
  have fn_103 : FnOk P w K mg base CX0 1 _ fd103 ["self", "told"] (spFn (CtOf K w CN CF) F_Row____init__) := fn_ok (k := 0) D103 sc_Row____init__ rfl ⟨rfl, rfl⟩ k_Row____init__ rfl (by decide) (tab_ok T_Row____init__) FL M_Row____init__
  have bd_103 : Binds K fd103 ["self", "told"] [] := D103.bindsN (fun _ _ _ _ _ _ us hl => match us, hl with | [_, _], _ => rfl)
  have fn_104 : FnOk P w K mg base CX0 1 _ fd104 ["self", "told"] (spFn (CtOf K w CN CF) F_Row____init__) := fn_ok (k := 0) D104 sc_Row____init__ rfl ⟨rfl, rfl⟩ k_Row____init__ rfl (by decide) (tab_ok T_Row____init__) FL M_Row____init__
  have bd_104 : Binds K fd104 ["self", "told"] [] := D104.bindsN (fun _ _ _ _ _ _ us hl => match us, hl with | [_, _], _ => rfl)
  have fn_105 : FnOk P w K mg base CX0 1 _ fd105 ["self", "told"] (spFn (CtOf K w CN CF) F_Row____init__) := fn_ok (k := 0) D105 sc_Row____init__ rfl ⟨rfl, rfl⟩ k_Row____init__ rfl (by decide) (tab_ok T_Row____init__) FL M_Row____init__
  have bd_105 : Binds K fd105 ["self", "told"] [] := D105.bindsN (fun _ _ _ _ _ _ us hl => match us, hl with | [_, _], _ => rfl)
  have fn_106 : FnOk P w K mg base CX0 1 _ fd106 ["self", "told"] (spFn (CtOf K w CN CF) F_Row____init__) := fn_ok (k := 0) D106 sc_Row____init__ rfl ⟨rfl, rfl⟩ k_Row____init__ rfl (by decide) (tab_ok T_Row____init__) FL M_Row____init__
  have bd_106 : Binds K fd106 ["self", "told"] [] := D106.bindsN (fun _ _ _ _ _ _ us hl => match us, hl with | [_, _], _ => rfl)
  have fn_107 : FnOk P w K mg base CX0 1 _ fd107 ["self", "told"] (spFn (CtOf K w CN CF) F_Row____init__) := fn_ok (k := 0) D107 sc_Row____init__ rfl ⟨rfl, rfl⟩ k_Row____init__ rfl (by decide) (tab_ok T_Row____init__) FL M_Row____init__
  have bd_107 : Binds K fd107 ["self", "told"] [] := D107.bindsN (fun _ _ _ _ _ _ us hl => match us, hl with | [_, _], _ => rfl)
  have fn_108 : FnOk P w K mg base CX0 1 _ fd108 ["self", "told"] (spFn (CtOf K w CN CF) F_Row____init__) := fn_ok (k := 0) D108 sc_Row____init__ rfl ⟨rfl, rfl⟩ k_Row____init__ rfl (by decide) (tab_ok T_Row____init__) FL M_Row____init__
  have bd_108 : Binds K fd108 ["self", "told"] [] := D108.bindsN (fun _ _ _ _ _ _ us hl => match us, hl with | [_, _], _ => rfl)
  have fn_109 : FnOk P w K mg base CX0 1 _ fd109 ["self", "told"] (spFn (CtOf K w CN CF) F_Row____init__) := fn_ok (k := 0) D109 sc_Row____init__ rfl ⟨rfl, rfl⟩ k_Row____init__ rfl (by decide) (tab_ok T_Row____init__) FL M_Row____init__
  have bd_109 : Binds K fd109 ["self", "told"] [] := D109.bindsN (fun _ _ _ _ _ _ us hl => match us, hl with | [_, _], _ => rfl)
  have fn_110 : FnOk P w K mg base CX0 1 _ fd110 ["self", "told"] (spFn (CtOf K w CN CF) F_Row____init__) := fn_ok (k := 0) D110 sc_Row____init__ rfl ⟨rfl, rfl⟩ k_Row____init__ rfl (by decide) (tab_ok T_Row____init__) FL M_Row____init__
  have bd_110 : Binds K fd110 ["self", "told"] [] := D110.bindsN (fun _ _ _ _ _ _ us hl => match us, hl with | [_, _], _ => rfl)
  have fn_111 : FnOk P w K mg base CX0 1 _ fd111 ["self", "told"] (spFn (CtOf K w CN CF) F_Row____init__) := fn_ok (k := 0) D111 sc_Row____init__ rfl ⟨rfl, rfl⟩ k_Row____init__ rfl (by decide) (tab_ok T_Row____init__) FL M_Row____init__
  have bd_111 : Binds K fd111 ["self", "told"] [] := D111.bindsN (fun _ _ _ _ _ _ us hl => match us, hl with | [_, _], _ => rfl)
  have fn_112 : FnOk P w K mg base CX0 1 _ fd112 ["self", "told"] (spFn (CtOf K w CN CF) F_Row____init__) := fn_ok (k := 0) D112 sc_Row____init__ rfl ⟨rfl, rfl⟩ k_Row____init__ rfl (by decide) (tab_ok T_Row____init__) FL M_Row____init__
  have bd_112 : Binds K fd112 ["self", "told"] [] := D112.bindsN (fun _ _ _ _ _ _ us hl => match us, hl with | [_, _], _ => rfl)
  have fn_113 : FnOk P w K mg base CX0 1 _ fd113 ["self", "told"] (spFn (CtOf K w CN CF) F_Row____init__) := fn_ok (k := 0) D113 sc_Row____init__ rfl ⟨rfl, rfl⟩ k_Row____init__ rfl (by decide) (tab_ok T_Row____init__) FL M_Row____init__
  have bd_113 : Binds K fd113 ["self", "told"] [] := D113.bindsN (fun _ _ _ _ _ _ us hl => match us, hl with | [_, _], _ => rfl)
  have fn_114 : FnOk P w K mg base CX0 1 _ fd114 ["self", "told"] (spFn (CtOf K w CN CF) F_Row____init__) := fn_ok (k := 0) D114 sc_Row____init__ rfl ⟨rfl, rfl⟩ k_Row____init__ rfl (by decide) (tab_ok T_Row____init__) FL M_Row____init__
  have bd_114 : Binds K fd114 ["self", "told"] [] := D114.bindsN (fun _ _ _ _ _ _ us hl => match us, hl with | [_, _], _ => rfl)
  have fn_115 : FnOk P w K mg base CX0 1 _ fd115 ["self", "told"] (spFn (CtOf K w CN CF) F_Row____init__) := fn_ok (k := 0) D115 sc_Row____init__ rfl ⟨rfl, rfl⟩ k_Row____init__ rfl (by decide) (tab_ok T_Row____init__) FL M_Row____init__
  have bd_115 : Binds K fd115 ["self", "told"] [] := D115.bindsN (fun _ _ _ _ _ _ us hl => match us, hl with | [_, _], _ => rfl)
  have fn_116 : FnOk P w K mg base CX0 1 _ fd116 ["self", "told"] (spFn (CtOf K w CN CF) F_Row____init__) := fn_ok (k := 0) D116 sc_Row____init__ rfl ⟨rfl, rfl⟩ k_Row____init__ rfl (by decide) (tab_ok T_Row____init__) FL M_Row____init__
  have bd_116 : Binds K fd116 ["self", "told"] [] := D116.bindsN (fun _ _ _ _ _ _ us hl => match us, hl with | [_, _], _ => rfl)
  have fn_117 : FnOk P w K mg base CX0 1 _ fd117 ["self", "told"] (spFn (CtOf K w CN CF) F_Row____init__) := fn_ok (k := 0) D117 sc_Row____init__ rfl ⟨rfl, rfl⟩ k_Row____init__ rfl (by decide) (tab_ok T_Row____init__) FL M_Row____init__
  have bd_117 : Binds K fd117 ["self", "told"] [] := D117.bindsN (fun _ _ _ _ _ _ us hl => match us, hl with | [_, _], _ => rfl)
  have fn_118 : FnOk P w K mg base CX0 1 _ fd118 ["self", "told"] (spFn (CtOf K w CN CF) F_Row____init__) := fn_ok (k := 0) D118 sc_Row____init__ rfl ⟨rfl, rfl⟩ k_Row____init__ rfl (by decide) (tab_ok T_Row____init__) FL M_Row____init__
  have bd_118 : Binds K fd118 ["self", "told"] [] := D118.bindsN (fun _ _ _ _ _ _ us hl => match us, hl with | [_, _], _ => rfl)
  have fn_119 : FnOk P w K mg base CX0 1 _ fd119 ["self", "told"] (spFn (CtOf K w CN CF) F_Row____init__) := fn_ok (k := 0) D119 sc_Row____init__ rfl ⟨rfl, rfl⟩ k_Row____init__ rfl (by decide) (tab_ok T_Row____init__) FL M_Row____init__
  have bd_119 : Binds K fd119 ["self", "told"] [] := D119.bindsN (fun _ _ _ _ _ _ us hl => match us, hl with | [_, _], _ => rfl)
  have T_with_boxes : ∀ p ∈ t_with_boxes, GOk P w K mg base (CtOf K w CN CF) 2 p.1 p.2 := by
    unfold t_with_boxes
    simp only [List.forall_mem_cons, List.not_mem_nil, false_implies, implies_true, and_true]
    exact ⟨cl_ok (ne_ok (j := 1) (by decide) rfl (He.glo_ok X G (c.fact 53 (f := .glo "StopRow") rfl)) (He.mkr_ok (c.fact 161 (f := .mkr "StopRow") rfl)) (fn_101) (bd_101)) (fun _ _ z => by cases z), cl_ok (ne_ok (j := 1) (by decide) rfl (He.glo_ok X G (c.fact 51 (f := .glo "BackRow") rfl)) (He.mkr_ok (c.fact 162 (f := .mkr "BackRow") rfl)) (fn_102) (bd_102)) (fun _ _ z => by cases z), GOk.mono (by decide) g_is_box, He.free_ok X G (c.fact 182 (f := .free "len") rfl), cl_ok (ne_ok (j := 1) (by decide) rfl (He.glo_ok X G (c.fact 35 (f := .glo "AskRow") rfl)) (He.mkr_ok (c.fact 163 (f := .mkr "AskRow") rfl)) (fn_103) (bd_103)) (fun _ _ z => by cases z), cl_ok (ne_ok (j := 1) (by decide) rfl (He.glo_ok X G (c.fact 33 (f := .glo "SayRow") rfl)) (He.mkr_ok (c.fact 164 (f := .mkr "SayRow") rfl)) (fn_104) (bd_104)) (fun _ _ z => by cases z), cl_ok (ne_ok (j := 1) (by decide) rfl (He.glo_ok X G (c.fact 31 (f := .glo "TakeRow") rfl)) (He.mkr_ok (c.fact 165 (f := .mkr "TakeRow") rfl)) (fn_105) (bd_105)) (fun _ _ z => by cases z), cl_ok (ne_ok (j := 1) (by decide) rfl (He.glo_ok X G (c.fact 29 (f := .glo "AddRow") rfl)) (He.mkr_ok (c.fact 166 (f := .mkr "AddRow") rfl)) (fn_106) (bd_106)) (fun _ _ z => by cases z)⟩
  have M_with_boxes : ∀ m io tb, msOf m_with_boxes m = some (io, tb) → ∀ q f, tb q = some f → f.io = io ∧ MOk P w K mg base (CtOf K w CN CF) 2 q m f := by
    refine ms_ok ?_
    unfold m_with_boxes
    intro e he; cases he
  have fn_3 : FnOk P w K mg base CX0 3 _ fd3 ["told"] (spFn (CtOf K w CN CF) F_with_boxes) := fn_ok (k := 2) D3 sc_with_boxes rfl ⟨rfl, rfl⟩ k_with_boxes rfl (by decide) (tab_ok T_with_boxes) FL M_with_boxes
  have bd_3 : Binds K fd3 ["told"] [] := D3.bindsN (fun _ _ _ _ _ _ us hl => match us, hl with | [_], _ => rfl)
  have g_with_boxes : GOk P w K mg base (CtOf K w CN CF) 3 "with_boxes" (.fn F_with_boxes) := ⟨_, _, _, He.glo_ok X G (c.fact 3 (f := .glo "with_boxes") rfl), fn_3, D3.kp, bd_3⟩
  have T_with_aim : ∀ p ∈ t_with_aim, GOk P w K mg base (CtOf K w CN CF) 2 p.1 p.2 := by
    unfold t_with_aim
    simp only [List.forall_mem_cons, List.not_mem_nil, false_implies, implies_true, and_true]
    exact ⟨He.free_ok X G (c.fact 182 (f := .free "len") rfl), cl_ok (ne_ok (j := 1) (by decide) rfl (He.glo_ok X G (c.fact 45 (f := .glo "LoadRow") rfl)) (He.mkr_ok (c.fact 167 (f := .mkr "LoadRow") rfl)) (fn_107) (bd_107)) (fun _ _ z => by cases z), cl_ok (ne_ok (j := 1) (by decide) rfl (He.glo_ok X G (c.fact 47 (f := .glo "JumpByRow") rfl)) (He.mkr_ok (c.fact 168 (f := .mkr "JumpByRow") rfl)) (fn_108) (bd_108)) (fun _ _ z => by cases z), cl_ok (ne_ok (j := 1) (by decide) rfl (He.glo_ok X G (c.fact 41 (f := .glo "JumpIfRow") rfl)) (He.mkr_ok (c.fact 169 (f := .mkr "JumpIfRow") rfl)) (fn_109) (bd_109)) (fun _ _ z => by cases z), cl_ok (ne_ok (j := 1) (by decide) rfl (He.glo_ok X G (c.fact 43 (f := .glo "CallRow") rfl)) (He.mkr_ok (c.fact 170 (f := .mkr "CallRow") rfl)) (fn_110) (bd_110)) (fun _ _ z => by cases z), cl_ok (ne_ok (j := 1) (by decide) rfl (He.glo_ok X G (c.fact 39 (f := .glo "JumpRow") rfl)) (He.mkr_ok (c.fact 171 (f := .mkr "JumpRow") rfl)) (fn_111) (bd_111)) (fun _ _ z => by cases z), He.free_ok X G (c.fact 180 (f := .free "all") rfl), GOk.mono (by decide) g_is_box, GOk.mono (by decide) g_is_word⟩
  have M_with_aim : ∀ m io tb, msOf m_with_aim m = some (io, tb) → ∀ q f, tb q = some f → f.io = io ∧ MOk P w K mg base (CtOf K w CN CF) 2 q m f := by
    refine ms_ok ?_
    unfold m_with_aim
    intro e he; cases he
  have fn_4 : FnOk P w K mg base CX0 3 _ fd4 ["told"] (spFn (CtOf K w CN CF) F_with_aim) := fn_ok (k := 2) D4 sc_with_aim rfl ⟨rfl, rfl⟩ k_with_aim rfl (by decide) (tab_ok T_with_aim) FL M_with_aim
  have bd_4 : Binds K fd4 ["told"] [] := D4.bindsN (fun _ _ _ _ _ _ us hl => match us, hl with | [_], _ => rfl)
  have g_with_aim : GOk P w K mg base (CtOf K w CN CF) 3 "with_aim" (.fn F_with_aim) := ⟨_, _, _, He.glo_ok X G (c.fact 4 (f := .glo "with_aim") rfl), fn_4, D4.kp, bd_4⟩
  have T_with_list : ∀ p ∈ t_with_list, GOk P w K mg base (CtOf K w CN CF) 2 p.1 p.2 := by
    unfold t_with_list
    simp only [List.forall_mem_cons, List.not_mem_nil, false_implies, implies_true, and_true]
    exact ⟨He.free_ok X G (c.fact 180 (f := .free "all") rfl), GOk.mono (by decide) g_is_word, cl_ok (ne_ok (j := 1) (by decide) rfl (He.glo_ok X G (c.fact 59 (f := .glo "TableRow") rfl)) (He.mkr_ok (c.fact 172 (f := .mkr "TableRow") rfl)) (fn_112) (bd_112)) (fun _ _ z => by cases z), He.free_ok X G (c.fact 191 (f := .free "list") rfl), GOk.mono (by decide) g_is_plain, cl_ok (ne_ok (j := 1) (by decide) rfl (He.glo_ok X G (c.fact 57 (f := .glo "NumbersRow") rfl)) (He.mkr_ok (c.fact 173 (f := .mkr "NumbersRow") rfl)) (fn_113) (bd_113)) (fun _ _ z => by cases z), He.free_ok X G (c.fact 182 (f := .free "len") rfl), gok_int (He.int_ok X G (c.fact 192 (f := .int "MOST_DATA" 60) rfl)), He.free_ok X G (c.fact 184 (f := .free "isinstance") rfl)⟩
  have M_with_list : ∀ m io tb, msOf m_with_list m = some (io, tb) → ∀ q f, tb q = some f → f.io = io ∧ MOk P w K mg base (CtOf K w CN CF) 2 q m f := by
    refine ms_ok ?_
    unfold m_with_list
    intro e he; cases he
  have fn_5 : FnOk P w K mg base CX0 3 _ fd5 ["told"] (spFn (CtOf K w CN CF) F_with_list) := fn_ok (k := 2) D5 sc_with_list rfl ⟨rfl, rfl⟩ k_with_list rfl (by decide) (tab_ok T_with_list) FL M_with_list
  have bd_5 : Binds K fd5 ["told"] [] := D5.bindsN (fun _ _ _ _ _ _ us hl => match us, hl with | [_], _ => rfl)
  have g_with_list : GOk P w K mg base (CtOf K w CN CF) 3 "with_list" (.fn F_with_list) := ⟨_, _, _, He.glo_ok X G (c.fact 5 (f := .glo "with_list") rfl), fn_5, D5.kp, bd_5⟩
  have T_row_of : ∀ p ∈ t_row_of, GOk P w K mg base (CtOf K w CN CF) 3 p.1 p.2 := by
    unfold t_row_of
    simp only [List.forall_mem_cons, List.not_mem_nil, false_implies, implies_true, and_true]
    exact ⟨GOk.mono (by decide) g_with_boxes, GOk.mono (by decide) g_with_aim, GOk.mono (by decide) g_with_list, GOk.mono (by decide) g_is_word, GOk.mono (by decide) g_is_box, He.free_ok X G (c.fact 182 (f := .free "len") rfl), cl_ok (ne_ok (j := 1) (by decide) rfl (He.glo_ok X G (c.fact 49 (f := .glo "AlikeRow") rfl)) (He.mkr_ok (c.fact 174 (f := .mkr "AlikeRow") rfl)) (fn_114) (bd_114)) (fun _ _ z => by cases z), GOk.mono (by decide) g_is_plain, cl_ok (ne_ok (j := 1) (by decide) rfl (He.glo_ok X G (c.fact 27 (f := .glo "SetRow") rfl)) (He.mkr_ok (c.fact 175 (f := .mkr "SetRow") rfl)) (fn_115) (bd_115)) (fun _ _ z => by cases z), He.free_ok X G (c.fact 184 (f := .free "isinstance") rfl), He.free_ok X G (c.fact 187 (f := .free "bool") rfl), cl_ok (ne_ok (j := 1) (by decide) rfl (He.glo_ok X G (c.fact 23 (f := .glo "MarkRow") rfl)) (He.mkr_ok (c.fact 176 (f := .mkr "MarkRow") rfl)) (fn_116) (bd_116)) (fun _ _ z => by cases z), He.free_ok X G (c.fact 185 (f := .free "str") rfl), He.free_ok X G (c.fact 193 (f := .free "tuple") rfl)⟩
  have M_row_of : ∀ m io tb, msOf m_row_of m = some (io, tb) → ∀ q f, tb q = some f → f.io = io ∧ MOk P w K mg base (CtOf K w CN CF) 3 q m f := by
    refine ms_ok ?_
    unfold m_row_of
    intro e he; cases he
  have fn_6 : FnOk P w K mg base CX0 4 _ fd6 ["thing"] (spFn (CtOf K w CN CF) F_row_of) := fn_ok (k := 3) D6 sc_row_of rfl ⟨rfl, rfl⟩ k_row_of rfl (by decide) (tab_ok T_row_of) FL M_row_of
  have bd_6 : Binds K fd6 ["thing"] [] := D6.bindsN (fun _ _ _ _ _ _ us hl => match us, hl with | [_], _ => rfl)
  have g_row_of : GOk P w K mg base (CtOf K w CN CF) 4 "row_of" (.fn F_row_of) := ⟨_, _, _, He.glo_ok X G (c.fact 6 (f := .glo "row_of") rfl), fn_6, D6.kp, bd_6⟩
  have T_Row__lengths : ∀ p ∈ t_Row__lengths, GOk P w K mg base (CtOf K w CN CF) 0 p.1 p.2 := by
    unfold t_Row__lengths
    intro p hp; cases hp
  have M_Row__lengths : ∀ m io tb, msOf m_Row__lengths m = some (io, tb) → ∀ q f, tb q = some f → f.io = io ∧ MOk P w K mg base (CtOf K w CN CF) 0 q m f := by
    refine ms_ok ?_
    unfold m_Row__lengths
    intro e he; cases he
  have fn_21 : FnOk P w K mg base CX0 1 _ fd21 ["self"] (spFn (CtOf K w CN CF) F_Row__lengths) := fn_ok (k := 0) D21 sc_Row__lengths rfl ⟨rfl, rfl⟩ k_Row__lengths rfl (by decide) (tab_ok T_Row__lengths) FL M_Row__lengths
  have bd_21 : Binds K fd21 ["self"] [] := D21.bindsN (fun _ _ _ _ _ _ us hl => match us, hl with | [_], _ => rfl)
  have mo_21 : MOk P w K mg base (CtOf K w CN CF) 1 0 "lengths" F_Row__lengths := me_ok (y := "Row") rfl (He.cls_ok (c.fact 22 (f := .cls "Row") rfl)) (He.meth_ok (c.fact 81 (f := .meth "Row" "lengths") rfl)) fn_21 bd_21 (by decide +kernel)
  have fn_22 : FnOk P w K mg base CX0 1 _ fd22 ["self"] (spFn (CtOf K w CN CF) F_Row__lengths) := fn_ok (k := 0) D22 sc_Row__lengths rfl ⟨rfl, rfl⟩ k_Row__lengths rfl (by decide) (tab_ok T_Row__lengths) FL M_Row__lengths
  have bd_22 : Binds K fd22 ["self"] [] := D22.bindsN (fun _ _ _ _ _ _ us hl => match us, hl with | [_], _ => rfl)
  have mo_22 : MOk P w K mg base (CtOf K w CN CF) 1 1 "lengths" F_Row__lengths := me_ok (y := "MarkRow") rfl (He.cls_ok (c.fact 24 (f := .cls "MarkRow") rfl)) (He.meth_ok (c.fact 82 (f := .meth "MarkRow" "lengths") rfl)) fn_22 bd_22 (by decide +kernel)
  have fn_38 : FnOk P w K mg base CX0 1 _ fd38 ["self"] (spFn (CtOf K w CN CF) F_Row__lengths) := fn_ok (k := 0) D38 sc_Row__lengths rfl ⟨rfl, rfl⟩ k_Row__lengths rfl (by decide) (tab_ok T_Row__lengths) FL M_Row__lengths
  have bd_38 : Binds K fd38 ["self"] [] := D38.bindsN (fun _ _ _ _ _ _ us hl => match us, hl with | [_], _ => rfl)
  have mo_38 : MOk P w K mg base (CtOf K w CN CF) 1 17 "lengths" F_Row__lengths := me_ok (y := "DataRow") rfl (He.cls_ok (c.fact 56 (f := .cls "DataRow") rfl)) (He.meth_ok (c.fact 98 (f := .meth "DataRow" "lengths") rfl)) fn_38 bd_38 (by decide +kernel)
  have T_CodeRow__lengths : ∀ p ∈ t_CodeRow__lengths, GOk P w K mg base (CtOf K w CN CF) 0 p.1 p.2 := by
    unfold t_CodeRow__lengths
    intro p hp; cases hp
  have M_CodeRow__lengths : ∀ m io tb, msOf m_CodeRow__lengths m = some (io, tb) → ∀ q f, tb q = some f → f.io = io ∧ MOk P w K mg base (CtOf K w CN CF) 0 q m f := by
    refine ms_ok ?_
    unfold m_CodeRow__lengths
    intro e he; cases he
  have fn_23 : FnOk P w K mg base CX0 1 _ fd23 ["self"] (spFn (CtOf K w CN CF) F_CodeRow__lengths) := fn_ok (k := 0) D23 sc_CodeRow__lengths rfl ⟨rfl, rfl⟩ k_CodeRow__lengths rfl (by decide) (tab_ok T_CodeRow__lengths) FL M_CodeRow__lengths
  have bd_23 : Binds K fd23 ["self"] [] := D23.bindsN (fun _ _ _ _ _ _ us hl => match us, hl with | [_], _ => rfl)
  have mo_23 : MOk P w K mg base (CtOf K w CN CF) 1 2 "lengths" F_CodeRow__lengths := me_ok (y := "CodeRow") rfl (He.cls_ok (c.fact 26 (f := .cls "CodeRow") rfl)) (He.meth_ok (c.fact 83 (f := .meth "CodeRow" "lengths") rfl)) fn_23 bd_23 (by decide +kernel)
  have fn_25 : FnOk P w K mg base CX0 1 _ fd25 ["self"] (spFn (CtOf K w CN CF) F_CodeRow__lengths) := fn_ok (k := 0) D25 sc_CodeRow__lengths rfl ⟨rfl, rfl⟩ k_CodeRow__lengths rfl (by decide) (tab_ok T_CodeRow__lengths) FL M_CodeRow__lengths
  have bd_25 : Binds K fd25 ["self"] [] := D25.bindsN (fun _ _ _ _ _ _ us hl => match us, hl with | [_], _ => rfl)
  have mo_25 : MOk P w K mg base (CtOf K w CN CF) 1 4 "lengths" F_CodeRow__lengths := me_ok (y := "AddRow") rfl (He.cls_ok (c.fact 30 (f := .cls "AddRow") rfl)) (He.meth_ok (c.fact 85 (f := .meth "AddRow" "lengths") rfl)) fn_25 bd_25 (by decide +kernel)
  have fn_26 : FnOk P w K mg base CX0 1 _ fd26 ["self"] (spFn (CtOf K w CN CF) F_CodeRow__lengths) := fn_ok (k := 0) D26 sc_CodeRow__lengths rfl ⟨rfl, rfl⟩ k_CodeRow__lengths rfl (by decide) (tab_ok T_CodeRow__lengths) FL M_CodeRow__lengths
  have bd_26 : Binds K fd26 ["self"] [] := D26.bindsN (fun _ _ _ _ _ _ us hl => match us, hl with | [_], _ => rfl)
  have mo_26 : MOk P w K mg base (CtOf K w CN CF) 1 5 "lengths" F_CodeRow__lengths := me_ok (y := "TakeRow") rfl (He.cls_ok (c.fact 32 (f := .cls "TakeRow") rfl)) (He.meth_ok (c.fact 86 (f := .meth "TakeRow" "lengths") rfl)) fn_26 bd_26 (by decide +kernel)
  have fn_27 : FnOk P w K mg base CX0 1 _ fd27 ["self"] (spFn (CtOf K w CN CF) F_CodeRow__lengths) := fn_ok (k := 0) D27 sc_CodeRow__lengths rfl ⟨rfl, rfl⟩ k_CodeRow__lengths rfl (by decide) (tab_ok T_CodeRow__lengths) FL M_CodeRow__lengths
  have bd_27 : Binds K fd27 ["self"] [] := D27.bindsN (fun _ _ _ _ _ _ us hl => match us, hl with | [_], _ => rfl)
  have mo_27 : MOk P w K mg base (CtOf K w CN CF) 1 6 "lengths" F_CodeRow__lengths := me_ok (y := "SayRow") rfl (He.cls_ok (c.fact 34 (f := .cls "SayRow") rfl)) (He.meth_ok (c.fact 87 (f := .meth "SayRow" "lengths") rfl)) fn_27 bd_27 (by decide +kernel)
  have fn_28 : FnOk P w K mg base CX0 1 _ fd28 ["self"] (spFn (CtOf K w CN CF) F_CodeRow__lengths) := fn_ok (k := 0) D28 sc_CodeRow__lengths rfl ⟨rfl, rfl⟩ k_CodeRow__lengths rfl (by decide) (tab_ok T_CodeRow__lengths) FL M_CodeRow__lengths
  have bd_28 : Binds K fd28 ["self"] [] := D28.bindsN (fun _ _ _ _ _ _ us hl => match us, hl with | [_], _ => rfl)
  have mo_28 : MOk P w K mg base (CtOf K w CN CF) 1 7 "lengths" F_CodeRow__lengths := me_ok (y := "AskRow") rfl (He.cls_ok (c.fact 36 (f := .cls "AskRow") rfl)) (He.meth_ok (c.fact 88 (f := .meth "AskRow" "lengths") rfl)) fn_28 bd_28 (by decide +kernel)
  have fn_36 : FnOk P w K mg base CX0 1 _ fd36 ["self"] (spFn (CtOf K w CN CF) F_CodeRow__lengths) := fn_ok (k := 0) D36 sc_CodeRow__lengths rfl ⟨rfl, rfl⟩ k_CodeRow__lengths rfl (by decide) (tab_ok T_CodeRow__lengths) FL M_CodeRow__lengths
  have bd_36 : Binds K fd36 ["self"] [] := D36.bindsN (fun _ _ _ _ _ _ us hl => match us, hl with | [_], _ => rfl)
  have mo_36 : MOk P w K mg base (CtOf K w CN CF) 1 15 "lengths" F_CodeRow__lengths := me_ok (y := "BackRow") rfl (He.cls_ok (c.fact 52 (f := .cls "BackRow") rfl)) (He.meth_ok (c.fact 96 (f := .meth "BackRow" "lengths") rfl)) fn_36 bd_36 (by decide +kernel)
  have fn_37 : FnOk P w K mg base CX0 1 _ fd37 ["self"] (spFn (CtOf K w CN CF) F_CodeRow__lengths) := fn_ok (k := 0) D37 sc_CodeRow__lengths rfl ⟨rfl, rfl⟩ k_CodeRow__lengths rfl (by decide) (tab_ok T_CodeRow__lengths) FL M_CodeRow__lengths
  have bd_37 : Binds K fd37 ["self"] [] := D37.bindsN (fun _ _ _ _ _ _ us hl => match us, hl with | [_], _ => rfl)
  have mo_37 : MOk P w K mg base (CtOf K w CN CF) 1 16 "lengths" F_CodeRow__lengths := me_ok (y := "StopRow") rfl (He.cls_ok (c.fact 54 (f := .cls "StopRow") rfl)) (He.meth_ok (c.fact 97 (f := .meth "StopRow" "lengths") rfl)) fn_37 bd_37 (by decide +kernel)
  have T_SetRow__lengths : ∀ p ∈ t_SetRow__lengths, GOk P w K mg base (CtOf K w CN CF) 0 p.1 p.2 := by
    unfold t_SetRow__lengths
    intro p hp; cases hp
  have M_SetRow__lengths : ∀ m io tb, msOf m_SetRow__lengths m = some (io, tb) → ∀ q f, tb q = some f → f.io = io ∧ MOk P w K mg base (CtOf K w CN CF) 0 q m f := by
    refine ms_ok ?_
    unfold m_SetRow__lengths
    intro e he; cases he
  have fn_24 : FnOk P w K mg base CX0 1 _ fd24 ["self"] (spFn (CtOf K w CN CF) F_SetRow__lengths) := fn_ok (k := 0) D24 sc_SetRow__lengths rfl ⟨rfl, rfl⟩ k_SetRow__lengths rfl (by decide) (tab_ok T_SetRow__lengths) FL M_SetRow__lengths
  have bd_24 : Binds K fd24 ["self"] [] := D24.bindsN (fun _ _ _ _ _ _ us hl => match us, hl with | [_], _ => rfl)
  have mo_24 : MOk P w K mg base (CtOf K w CN CF) 1 3 "lengths" F_SetRow__lengths := me_ok (y := "SetRow") rfl (He.cls_ok (c.fact 28 (f := .cls "SetRow") rfl)) (He.meth_ok (c.fact 84 (f := .meth "SetRow" "lengths") rfl)) fn_24 bd_24 (by decide +kernel)
  have T_AimRow__lengths : ∀ p ∈ t_AimRow__lengths, GOk P w K mg base (CtOf K w CN CF) 0 p.1 p.2 := by
    unfold t_AimRow__lengths
    intro p hp; cases hp
  have M_AimRow__lengths : ∀ m io tb, msOf m_AimRow__lengths m = some (io, tb) → ∀ q f, tb q = some f → f.io = io ∧ MOk P w K mg base (CtOf K w CN CF) 0 q m f := by
    refine ms_ok ?_
    unfold m_AimRow__lengths
    intro e he; cases he
  have fn_29 : FnOk P w K mg base CX0 1 _ fd29 ["self"] (spFn (CtOf K w CN CF) F_AimRow__lengths) := fn_ok (k := 0) D29 sc_AimRow__lengths rfl ⟨rfl, rfl⟩ k_AimRow__lengths rfl (by decide) (tab_ok T_AimRow__lengths) FL M_AimRow__lengths
  have bd_29 : Binds K fd29 ["self"] [] := D29.bindsN (fun _ _ _ _ _ _ us hl => match us, hl with | [_], _ => rfl)
  have mo_29 : MOk P w K mg base (CtOf K w CN CF) 1 8 "lengths" F_AimRow__lengths := me_ok (y := "AimRow") rfl (He.cls_ok (c.fact 38 (f := .cls "AimRow") rfl)) (He.meth_ok (c.fact 89 (f := .meth "AimRow" "lengths") rfl)) fn_29 bd_29 (by decide +kernel)
  have fn_30 : FnOk P w K mg base CX0 1 _ fd30 ["self"] (spFn (CtOf K w CN CF) F_AimRow__lengths) := fn_ok (k := 0) D30 sc_AimRow__lengths rfl ⟨rfl, rfl⟩ k_AimRow__lengths rfl (by decide) (tab_ok T_AimRow__lengths) FL M_AimRow__lengths
  have bd_30 : Binds K fd30 ["self"] [] := D30.bindsN (fun _ _ _ _ _ _ us hl => match us, hl with | [_], _ => rfl)
  have mo_30 : MOk P w K mg base (CtOf K w CN CF) 1 9 "lengths" F_AimRow__lengths := me_ok (y := "JumpRow") rfl (He.cls_ok (c.fact 40 (f := .cls "JumpRow") rfl)) (He.meth_ok (c.fact 90 (f := .meth "JumpRow" "lengths") rfl)) fn_30 bd_30 (by decide +kernel)
  have fn_31 : FnOk P w K mg base CX0 1 _ fd31 ["self"] (spFn (CtOf K w CN CF) F_AimRow__lengths) := fn_ok (k := 0) D31 sc_AimRow__lengths rfl ⟨rfl, rfl⟩ k_AimRow__lengths rfl (by decide) (tab_ok T_AimRow__lengths) FL M_AimRow__lengths
  have bd_31 : Binds K fd31 ["self"] [] := D31.bindsN (fun _ _ _ _ _ _ us hl => match us, hl with | [_], _ => rfl)
  have mo_31 : MOk P w K mg base (CtOf K w CN CF) 1 10 "lengths" F_AimRow__lengths := me_ok (y := "JumpIfRow") rfl (He.cls_ok (c.fact 42 (f := .cls "JumpIfRow") rfl)) (He.meth_ok (c.fact 91 (f := .meth "JumpIfRow" "lengths") rfl)) fn_31 bd_31 (by decide +kernel)
  have fn_32 : FnOk P w K mg base CX0 1 _ fd32 ["self"] (spFn (CtOf K w CN CF) F_AimRow__lengths) := fn_ok (k := 0) D32 sc_AimRow__lengths rfl ⟨rfl, rfl⟩ k_AimRow__lengths rfl (by decide) (tab_ok T_AimRow__lengths) FL M_AimRow__lengths
  have bd_32 : Binds K fd32 ["self"] [] := D32.bindsN (fun _ _ _ _ _ _ us hl => match us, hl with | [_], _ => rfl)
  have mo_32 : MOk P w K mg base (CtOf K w CN CF) 1 11 "lengths" F_AimRow__lengths := me_ok (y := "CallRow") rfl (He.cls_ok (c.fact 44 (f := .cls "CallRow") rfl)) (He.meth_ok (c.fact 92 (f := .meth "CallRow" "lengths") rfl)) fn_32 bd_32 (by decide +kernel)
  have fn_33 : FnOk P w K mg base CX0 1 _ fd33 ["self"] (spFn (CtOf K w CN CF) F_AimRow__lengths) := fn_ok (k := 0) D33 sc_AimRow__lengths rfl ⟨rfl, rfl⟩ k_AimRow__lengths rfl (by decide) (tab_ok T_AimRow__lengths) FL M_AimRow__lengths
  have bd_33 : Binds K fd33 ["self"] [] := D33.bindsN (fun _ _ _ _ _ _ us hl => match us, hl with | [_], _ => rfl)
  have mo_33 : MOk P w K mg base (CtOf K w CN CF) 1 12 "lengths" F_AimRow__lengths := me_ok (y := "LoadRow") rfl (He.cls_ok (c.fact 46 (f := .cls "LoadRow") rfl)) (He.meth_ok (c.fact 93 (f := .meth "LoadRow" "lengths") rfl)) fn_33 bd_33 (by decide +kernel)
  have fn_34 : FnOk P w K mg base CX0 1 _ fd34 ["self"] (spFn (CtOf K w CN CF) F_AimRow__lengths) := fn_ok (k := 0) D34 sc_AimRow__lengths rfl ⟨rfl, rfl⟩ k_AimRow__lengths rfl (by decide) (tab_ok T_AimRow__lengths) FL M_AimRow__lengths
  have bd_34 : Binds K fd34 ["self"] [] := D34.bindsN (fun _ _ _ _ _ _ us hl => match us, hl with | [_], _ => rfl)
  have mo_34 : MOk P w K mg base (CtOf K w CN CF) 1 13 "lengths" F_AimRow__lengths := me_ok (y := "JumpByRow") rfl (He.cls_ok (c.fact 48 (f := .cls "JumpByRow") rfl)) (He.meth_ok (c.fact 94 (f := .meth "JumpByRow" "lengths") rfl)) fn_34 bd_34 (by decide +kernel)
  have T_AlikeRow__lengths : ∀ p ∈ t_AlikeRow__lengths, GOk P w K mg base (CtOf K w CN CF) 0 p.1 p.2 := by
    unfold t_AlikeRow__lengths
    intro p hp; cases hp
  have M_AlikeRow__lengths : ∀ m io tb, msOf m_AlikeRow__lengths m = some (io, tb) → ∀ q f, tb q = some f → f.io = io ∧ MOk P w K mg base (CtOf K w CN CF) 0 q m f := by
    refine ms_ok ?_
    unfold m_AlikeRow__lengths
    intro e he; cases he
  have fn_35 : FnOk P w K mg base CX0 1 _ fd35 ["self"] (spFn (CtOf K w CN CF) F_AlikeRow__lengths) := fn_ok (k := 0) D35 sc_AlikeRow__lengths rfl ⟨rfl, rfl⟩ k_AlikeRow__lengths rfl (by decide) (tab_ok T_AlikeRow__lengths) FL M_AlikeRow__lengths
  have bd_35 : Binds K fd35 ["self"] [] := D35.bindsN (fun _ _ _ _ _ _ us hl => match us, hl with | [_], _ => rfl)
  have mo_35 : MOk P w K mg base (CtOf K w CN CF) 1 14 "lengths" F_AlikeRow__lengths := me_ok (y := "AlikeRow") rfl (He.cls_ok (c.fact 50 (f := .cls "AlikeRow") rfl)) (He.meth_ok (c.fact 95 (f := .meth "AlikeRow" "lengths") rfl)) fn_35 bd_35 (by decide +kernel)
  have T_NumbersRow__lengths : ∀ p ∈ t_NumbersRow__lengths, GOk P w K mg base (CtOf K w CN CF) 0 p.1 p.2 := by
    unfold t_NumbersRow__lengths
    simp only [List.forall_mem_cons, List.not_mem_nil, false_implies, implies_true, and_true]
    exact He.free_ok X G (c.fact 182 (f := .free "len") rfl)
  have M_NumbersRow__lengths : ∀ m io tb, msOf m_NumbersRow__lengths m = some (io, tb) → ∀ q f, tb q = some f → f.io = io ∧ MOk P w K mg base (CtOf K w CN CF) 0 q m f := by
    refine ms_ok ?_
    unfold m_NumbersRow__lengths
    intro e he; cases he
  have fn_39 : FnOk P w K mg base CX0 1 _ fd39 ["self"] (spFn (CtOf K w CN CF) F_NumbersRow__lengths) := fn_ok (k := 0) D39 sc_NumbersRow__lengths rfl ⟨rfl, rfl⟩ k_NumbersRow__lengths rfl (by decide) (tab_ok T_NumbersRow__lengths) FL M_NumbersRow__lengths
  have bd_39 : Binds K fd39 ["self"] [] := D39.bindsN (fun _ _ _ _ _ _ us hl => match us, hl with | [_], _ => rfl)
  have mo_39 : MOk P w K mg base (CtOf K w CN CF) 1 18 "lengths" F_NumbersRow__lengths := me_ok (y := "NumbersRow") rfl (He.cls_ok (c.fact 58 (f := .cls "NumbersRow") rfl)) (He.meth_ok (c.fact 99 (f := .meth "NumbersRow" "lengths") rfl)) fn_39 bd_39 (by decide +kernel)
  have T_TableRow__lengths : ∀ p ∈ t_TableRow__lengths, GOk P w K mg base (CtOf K w CN CF) 0 p.1 p.2 := by
    unfold t_TableRow__lengths
    simp only [List.forall_mem_cons, List.not_mem_nil, false_implies, implies_true, and_true]
    exact He.free_ok X G (c.fact 182 (f := .free "len") rfl)
  have M_TableRow__lengths : ∀ m io tb, msOf m_TableRow__lengths m = some (io, tb) → ∀ q f, tb q = some f → f.io = io ∧ MOk P w K mg base (CtOf K w CN CF) 0 q m f := by
    refine ms_ok ?_
    unfold m_TableRow__lengths
    intro e he; cases he
  have fn_40 : FnOk P w K mg base CX0 1 _ fd40 ["self"] (spFn (CtOf K w CN CF) F_TableRow__lengths) := fn_ok (k := 0) D40 sc_TableRow__lengths rfl ⟨rfl, rfl⟩ k_TableRow__lengths rfl (by decide) (tab_ok T_TableRow__lengths) FL M_TableRow__lengths
  have bd_40 : Binds K fd40 ["self"] [] := D40.bindsN (fun _ _ _ _ _ _ us hl => match us, hl with | [_], _ => rfl)
  have mo_40 : MOk P w K mg base (CtOf K w CN CF) 1 19 "lengths" F_TableRow__lengths := me_ok (y := "TableRow") rfl (He.cls_ok (c.fact 60 (f := .cls "TableRow") rfl)) (He.meth_ok (c.fact 100 (f := .meth "TableRow" "lengths") rfl)) fn_40 bd_40 (by decide +kernel)
  have T_lengths : ∀ p ∈ t_lengths, GOk P w K mg base (CtOf K w CN CF) 4 p.1 p.2 := by
    unfold t_lengths
    simp only [List.forall_mem_cons, List.not_mem_nil, false_implies, implies_true, and_true]
    exact GOk.mono (by decide) g_row_of
  have M_lengths : ∀ m io tb, msOf m_lengths m = some (io, tb) → ∀ q f, tb q = some f → f.io = io ∧ MOk P w K mg base (CtOf K w CN CF) 4 q m f := by
    refine ms_ok ?_
    unfold m_lengths
    simp only [mt_lengths, List.forall_mem_cons, List.not_mem_nil, false_implies, implies_true, and_true]
    exact ⟨⟨rfl, MOk.mono (by decide) mo_21⟩, ⟨rfl, MOk.mono (by decide) mo_22⟩, ⟨rfl, MOk.mono (by decide) mo_23⟩, ⟨rfl, MOk.mono (by decide) mo_24⟩, ⟨rfl, MOk.mono (by decide) mo_25⟩, ⟨rfl, MOk.mono (by decide) mo_26⟩, ⟨rfl, MOk.mono (by decide) mo_27⟩, ⟨rfl, MOk.mono (by decide) mo_28⟩, ⟨rfl, MOk.mono (by decide) mo_29⟩, ⟨rfl, MOk.mono (by decide) mo_30⟩, ⟨rfl, MOk.mono (by decide) mo_31⟩, ⟨rfl, MOk.mono (by decide) mo_32⟩, ⟨rfl, MOk.mono (by decide) mo_33⟩, ⟨rfl, MOk.mono (by decide) mo_34⟩, ⟨rfl, MOk.mono (by decide) mo_35⟩, ⟨rfl, MOk.mono (by decide) mo_36⟩, ⟨rfl, MOk.mono (by decide) mo_37⟩, ⟨rfl, MOk.mono (by decide) mo_38⟩, ⟨rfl, MOk.mono (by decide) mo_39⟩, ⟨rfl, MOk.mono (by decide) mo_40⟩⟩
  have fn_7 : FnOk P w K mg base CX0 5 _ fd7 ["row"] (spFn (CtOf K w CN CF) F_lengths) := fn_ok (k := 4) D7 sc_lengths rfl ⟨rfl, rfl⟩ k_lengths rfl (by decide) (tab_ok T_lengths) FL M_lengths
  have bd_7 : Binds K fd7 ["row"] [] := D7.bindsN (fun _ _ _ _ _ _ us hl => match us, hl with | [_], _ => rfl)
  have g_lengths : GOk P w K mg base (CtOf K w CN CF) 5 "lengths" (.fn F_lengths) := ⟨_, _, _, He.glo_ok X G (c.fact 7 (f := .glo "lengths") rfl), fn_7, D7.kp, bd_7⟩
  have T_Row__asked : ∀ p ∈ t_Row__asked, GOk P w K mg base (CtOf K w CN CF) 0 p.1 p.2 := by
    unfold t_Row__asked
    intro p hp; cases hp
  have M_Row__asked : ∀ m io tb, msOf m_Row__asked m = some (io, tb) → ∀ q f, tb q = some f → f.io = io ∧ MOk P w K mg base (CtOf K w CN CF) 0 q m f := by
    refine ms_ok ?_
    unfold m_Row__asked
    intro e he; cases he
  have fn_41 : FnOk P w K mg base CX0 1 _ fd41 ["self"] (spFn (CtOf K w CN CF) F_Row__asked) := fn_ok (k := 0) D41 sc_Row__asked rfl ⟨rfl, rfl⟩ k_Row__asked rfl (by decide) (tab_ok T_Row__asked) FL M_Row__asked
  have bd_41 : Binds K fd41 ["self"] [] := D41.bindsN (fun _ _ _ _ _ _ us hl => match us, hl with | [_], _ => rfl)
  have mo_41 : MOk P w K mg base (CtOf K w CN CF) 1 0 "asked" F_Row__asked := me_ok (y := "Row") rfl (He.cls_ok (c.fact 22 (f := .cls "Row") rfl)) (He.meth_ok (c.fact 101 (f := .meth "Row" "asked") rfl)) fn_41 bd_41 (by decide +kernel)
  have fn_42 : FnOk P w K mg base CX0 1 _ fd42 ["self"] (spFn (CtOf K w CN CF) F_Row__asked) := fn_ok (k := 0) D42 sc_Row__asked rfl ⟨rfl, rfl⟩ k_Row__asked rfl (by decide) (tab_ok T_Row__asked) FL M_Row__asked
  have bd_42 : Binds K fd42 ["self"] [] := D42.bindsN (fun _ _ _ _ _ _ us hl => match us, hl with | [_], _ => rfl)
  have mo_42 : MOk P w K mg base (CtOf K w CN CF) 1 1 "asked" F_Row__asked := me_ok (y := "MarkRow") rfl (He.cls_ok (c.fact 24 (f := .cls "MarkRow") rfl)) (He.meth_ok (c.fact 102 (f := .meth "MarkRow" "asked") rfl)) fn_42 bd_42 (by decide +kernel)
  have fn_43 : FnOk P w K mg base CX0 1 _ fd43 ["self"] (spFn (CtOf K w CN CF) F_Row__asked) := fn_ok (k := 0) D43 sc_Row__asked rfl ⟨rfl, rfl⟩ k_Row__asked rfl (by decide) (tab_ok T_Row__asked) FL M_Row__asked
  have bd_43 : Binds K fd43 ["self"] [] := D43.bindsN (fun _ _ _ _ _ _ us hl => match us, hl with | [_], _ => rfl)
  have mo_43 : MOk P w K mg base (CtOf K w CN CF) 1 2 "asked" F_Row__asked := me_ok (y := "CodeRow") rfl (He.cls_ok (c.fact 26 (f := .cls "CodeRow") rfl)) (He.meth_ok (c.fact 103 (f := .meth "CodeRow" "asked") rfl)) fn_43 bd_43 (by decide +kernel)
  have fn_44 : FnOk P w K mg base CX0 1 _ fd44 ["self"] (spFn (CtOf K w CN CF) F_Row__asked) := fn_ok (k := 0) D44 sc_Row__asked rfl ⟨rfl, rfl⟩ k_Row__asked rfl (by decide) (tab_ok T_Row__asked) FL M_Row__asked
  have bd_44 : Binds K fd44 ["self"] [] := D44.bindsN (fun _ _ _ _ _ _ us hl => match us, hl with | [_], _ => rfl)
  have mo_44 : MOk P w K mg base (CtOf K w CN CF) 1 3 "asked" F_Row__asked := me_ok (y := "SetRow") rfl (He.cls_ok (c.fact 28 (f := .cls "SetRow") rfl)) (He.meth_ok (c.fact 104 (f := .meth "SetRow" "asked") rfl)) fn_44 bd_44 (by decide +kernel)
  have fn_45 : FnOk P w K mg base CX0 1 _ fd45 ["self"] (spFn (CtOf K w CN CF) F_Row__asked) := fn_ok (k := 0) D45 sc_Row__asked rfl ⟨rfl, rfl⟩ k_Row__asked rfl (by decide) (tab_ok T_Row__asked) FL M_Row__asked
  have bd_45 : Binds K fd45 ["self"] [] := D45.bindsN (fun _ _ _ _ _ _ us hl => match us, hl with | [_], _ => rfl)
  have mo_45 : MOk P w K mg base (CtOf K w CN CF) 1 4 "asked" F_Row__asked := me_ok (y := "AddRow") rfl (He.cls_ok (c.fact 30 (f := .cls "AddRow") rfl)) (He.meth_ok (c.fact 105 (f := .meth "AddRow" "asked") rfl)) fn_45 bd_45 (by decide +kernel)
  have fn_46 : FnOk P w K mg base CX0 1 _ fd46 ["self"] (spFn (CtOf K w CN CF) F_Row__asked) := fn_ok (k := 0) D46 sc_Row__asked rfl ⟨rfl, rfl⟩ k_Row__asked rfl (by decide) (tab_ok T_Row__asked) FL M_Row__asked
  have bd_46 : Binds K fd46 ["self"] [] := D46.bindsN (fun _ _ _ _ _ _ us hl => match us, hl with | [_], _ => rfl)
  have mo_46 : MOk P w K mg base (CtOf K w CN CF) 1 5 "asked" F_Row__asked := me_ok (y := "TakeRow") rfl (He.cls_ok (c.fact 32 (f := .cls "TakeRow") rfl)) (He.meth_ok (c.fact 106 (f := .meth "TakeRow" "asked") rfl)) fn_46 bd_46 (by decide +kernel)
  have fn_47 : FnOk P w K mg base CX0 1 _ fd47 ["self"] (spFn (CtOf K w CN CF) F_Row__asked) := fn_ok (k := 0) D47 sc_Row__asked rfl ⟨rfl, rfl⟩ k_Row__asked rfl (by decide) (tab_ok T_Row__asked) FL M_Row__asked
  have bd_47 : Binds K fd47 ["self"] [] := D47.bindsN (fun _ _ _ _ _ _ us hl => match us, hl with | [_], _ => rfl)
  have mo_47 : MOk P w K mg base (CtOf K w CN CF) 1 6 "asked" F_Row__asked := me_ok (y := "SayRow") rfl (He.cls_ok (c.fact 34 (f := .cls "SayRow") rfl)) (He.meth_ok (c.fact 107 (f := .meth "SayRow" "asked") rfl)) fn_47 bd_47 (by decide +kernel)
  have fn_48 : FnOk P w K mg base CX0 1 _ fd48 ["self"] (spFn (CtOf K w CN CF) F_Row__asked) := fn_ok (k := 0) D48 sc_Row__asked rfl ⟨rfl, rfl⟩ k_Row__asked rfl (by decide) (tab_ok T_Row__asked) FL M_Row__asked
  have bd_48 : Binds K fd48 ["self"] [] := D48.bindsN (fun _ _ _ _ _ _ us hl => match us, hl with | [_], _ => rfl)
  have mo_48 : MOk P w K mg base (CtOf K w CN CF) 1 7 "asked" F_Row__asked := me_ok (y := "AskRow") rfl (He.cls_ok (c.fact 36 (f := .cls "AskRow") rfl)) (He.meth_ok (c.fact 108 (f := .meth "AskRow" "asked") rfl)) fn_48 bd_48 (by decide +kernel)
  have fn_56 : FnOk P w K mg base CX0 1 _ fd56 ["self"] (spFn (CtOf K w CN CF) F_Row__asked) := fn_ok (k := 0) D56 sc_Row__asked rfl ⟨rfl, rfl⟩ k_Row__asked rfl (by decide) (tab_ok T_Row__asked) FL M_Row__asked
  have bd_56 : Binds K fd56 ["self"] [] := D56.bindsN (fun _ _ _ _ _ _ us hl => match us, hl with | [_], _ => rfl)
  have mo_56 : MOk P w K mg base (CtOf K w CN CF) 1 15 "asked" F_Row__asked := me_ok (y := "BackRow") rfl (He.cls_ok (c.fact 52 (f := .cls "BackRow") rfl)) (He.meth_ok (c.fact 116 (f := .meth "BackRow" "asked") rfl)) fn_56 bd_56 (by decide +kernel)
  have fn_57 : FnOk P w K mg base CX0 1 _ fd57 ["self"] (spFn (CtOf K w CN CF) F_Row__asked) := fn_ok (k := 0) D57 sc_Row__asked rfl ⟨rfl, rfl⟩ k_Row__asked rfl (by decide) (tab_ok T_Row__asked) FL M_Row__asked
  have bd_57 : Binds K fd57 ["self"] [] := D57.bindsN (fun _ _ _ _ _ _ us hl => match us, hl with | [_], _ => rfl)
  have mo_57 : MOk P w K mg base (CtOf K w CN CF) 1 16 "asked" F_Row__asked := me_ok (y := "StopRow") rfl (He.cls_ok (c.fact 54 (f := .cls "StopRow") rfl)) (He.meth_ok (c.fact 117 (f := .meth "StopRow" "asked") rfl)) fn_57 bd_57 (by decide +kernel)
  have fn_58 : FnOk P w K mg base CX0 1 _ fd58 ["self"] (spFn (CtOf K w CN CF) F_Row__asked) := fn_ok (k := 0) D58 sc_Row__asked rfl ⟨rfl, rfl⟩ k_Row__asked rfl (by decide) (tab_ok T_Row__asked) FL M_Row__asked
  have bd_58 : Binds K fd58 ["self"] [] := D58.bindsN (fun _ _ _ _ _ _ us hl => match us, hl with | [_], _ => rfl)
  have mo_58 : MOk P w K mg base (CtOf K w CN CF) 1 17 "asked" F_Row__asked := me_ok (y := "DataRow") rfl (He.cls_ok (c.fact 56 (f := .cls "DataRow") rfl)) (He.meth_ok (c.fact 118 (f := .meth "DataRow" "asked") rfl)) fn_58 bd_58 (by decide +kernel)
  have fn_59 : FnOk P w K mg base CX0 1 _ fd59 ["self"] (spFn (CtOf K w CN CF) F_Row__asked) := fn_ok (k := 0) D59 sc_Row__asked rfl ⟨rfl, rfl⟩ k_Row__asked rfl (by decide) (tab_ok T_Row__asked) FL M_Row__asked
  have bd_59 : Binds K fd59 ["self"] [] := D59.bindsN (fun _ _ _ _ _ _ us hl => match us, hl with | [_], _ => rfl)
  have mo_59 : MOk P w K mg base (CtOf K w CN CF) 1 18 "asked" F_Row__asked := me_ok (y := "NumbersRow") rfl (He.cls_ok (c.fact 58 (f := .cls "NumbersRow") rfl)) (He.meth_ok (c.fact 119 (f := .meth "NumbersRow" "asked") rfl)) fn_59 bd_59 (by decide +kernel)
  have T_AimRow__asked : ∀ p ∈ t_AimRow__asked, GOk P w K mg base (CtOf K w CN CF) 0 p.1 p.2 := by
    unfold t_AimRow__asked
    intro p hp; cases hp
  have M_AimRow__asked : ∀ m io tb, msOf m_AimRow__asked m = some (io, tb) → ∀ q f, tb q = some f → f.io = io ∧ MOk P w K mg base (CtOf K w CN CF) 0 q m f := by
    refine ms_ok ?_
    unfold m_AimRow__asked
    intro e he; cases he
  have fn_49 : FnOk P w K mg base CX0 1 _ fd49 ["self"] (spFn (CtOf K w CN CF) F_AimRow__asked) := fn_ok (k := 0) D49 sc_AimRow__asked rfl ⟨rfl, rfl⟩ k_AimRow__asked rfl (by decide) (tab_ok T_AimRow__asked) FL M_AimRow__asked
  have bd_49 : Binds K fd49 ["self"] [] := D49.bindsN (fun _ _ _ _ _ _ us hl => match us, hl with | [_], _ => rfl)
  have mo_49 : MOk P w K mg base (CtOf K w CN CF) 1 8 "asked" F_AimRow__asked := me_ok (y := "AimRow") rfl (He.cls_ok (c.fact 38 (f := .cls "AimRow") rfl)) (He.meth_ok (c.fact 109 (f := .meth "AimRow" "asked") rfl)) fn_49 bd_49 (by decide +kernel)
  have fn_50 : FnOk P w K mg base CX0 1 _ fd50 ["self"] (spFn (CtOf K w CN CF) F_AimRow__asked) := fn_ok (k := 0) D50 sc_AimRow__asked rfl ⟨rfl, rfl⟩ k_AimRow__asked rfl (by decide) (tab_ok T_AimRow__asked) FL M_AimRow__asked
  have bd_50 : Binds K fd50 ["self"] [] := D50.bindsN (fun _ _ _ _ _ _ us hl => match us, hl with | [_], _ => rfl)
  have mo_50 : MOk P w K mg base (CtOf K w CN CF) 1 9 "asked" F_AimRow__asked := me_ok (y := "JumpRow") rfl (He.cls_ok (c.fact 40 (f := .cls "JumpRow") rfl)) (He.meth_ok (c.fact 110 (f := .meth "JumpRow" "asked") rfl)) fn_50 bd_50 (by decide +kernel)
  have fn_51 : FnOk P w K mg base CX0 1 _ fd51 ["self"] (spFn (CtOf K w CN CF) F_AimRow__asked) := fn_ok (k := 0) D51 sc_AimRow__asked rfl ⟨rfl, rfl⟩ k_AimRow__asked rfl (by decide) (tab_ok T_AimRow__asked) FL M_AimRow__asked
  have bd_51 : Binds K fd51 ["self"] [] := D51.bindsN (fun _ _ _ _ _ _ us hl => match us, hl with | [_], _ => rfl)
  have mo_51 : MOk P w K mg base (CtOf K w CN CF) 1 10 "asked" F_AimRow__asked := me_ok (y := "JumpIfRow") rfl (He.cls_ok (c.fact 42 (f := .cls "JumpIfRow") rfl)) (He.meth_ok (c.fact 111 (f := .meth "JumpIfRow" "asked") rfl)) fn_51 bd_51 (by decide +kernel)
  have fn_52 : FnOk P w K mg base CX0 1 _ fd52 ["self"] (spFn (CtOf K w CN CF) F_AimRow__asked) := fn_ok (k := 0) D52 sc_AimRow__asked rfl ⟨rfl, rfl⟩ k_AimRow__asked rfl (by decide) (tab_ok T_AimRow__asked) FL M_AimRow__asked
  have bd_52 : Binds K fd52 ["self"] [] := D52.bindsN (fun _ _ _ _ _ _ us hl => match us, hl with | [_], _ => rfl)
  have mo_52 : MOk P w K mg base (CtOf K w CN CF) 1 11 "asked" F_AimRow__asked := me_ok (y := "CallRow") rfl (He.cls_ok (c.fact 44 (f := .cls "CallRow") rfl)) (He.meth_ok (c.fact 112 (f := .meth "CallRow" "asked") rfl)) fn_52 bd_52 (by decide +kernel)
  have fn_53 : FnOk P w K mg base CX0 1 _ fd53 ["self"] (spFn (CtOf K w CN CF) F_AimRow__asked) := fn_ok (k := 0) D53 sc_AimRow__asked rfl ⟨rfl, rfl⟩ k_AimRow__asked rfl (by decide) (tab_ok T_AimRow__asked) FL M_AimRow__asked
  have bd_53 : Binds K fd53 ["self"] [] := D53.bindsN (fun _ _ _ _ _ _ us hl => match us, hl with | [_], _ => rfl)
  have mo_53 : MOk P w K mg base (CtOf K w CN CF) 1 12 "asked" F_AimRow__asked := me_ok (y := "LoadRow") rfl (He.cls_ok (c.fact 46 (f := .cls "LoadRow") rfl)) (He.meth_ok (c.fact 113 (f := .meth "LoadRow" "asked") rfl)) fn_53 bd_53 (by decide +kernel)
  have fn_54 : FnOk P w K mg base CX0 1 _ fd54 ["self"] (spFn (CtOf K w CN CF) F_AimRow__asked) := fn_ok (k := 0) D54 sc_AimRow__asked rfl ⟨rfl, rfl⟩ k_AimRow__asked rfl (by decide) (tab_ok T_AimRow__asked) FL M_AimRow__asked
  have bd_54 : Binds K fd54 ["self"] [] := D54.bindsN (fun _ _ _ _ _ _ us hl => match us, hl with | [_], _ => rfl)
  have mo_54 : MOk P w K mg base (CtOf K w CN CF) 1 13 "asked" F_AimRow__asked := me_ok (y := "JumpByRow") rfl (He.cls_ok (c.fact 48 (f := .cls "JumpByRow") rfl)) (He.meth_ok (c.fact 114 (f := .meth "JumpByRow" "asked") rfl)) fn_54 bd_54 (by decide +kernel)
  have T_AlikeRow__asked : ∀ p ∈ t_AlikeRow__asked, GOk P w K mg base (CtOf K w CN CF) 0 p.1 p.2 := by
    unfold t_AlikeRow__asked
    simp only [List.forall_mem_cons, List.not_mem_nil, false_implies, implies_true, and_true]
    exact He.free_ok X G (c.fact 191 (f := .free "list") rfl)
  have M_AlikeRow__asked : ∀ m io tb, msOf m_AlikeRow__asked m = some (io, tb) → ∀ q f, tb q = some f → f.io = io ∧ MOk P w K mg base (CtOf K w CN CF) 0 q m f := by
    refine ms_ok ?_
    unfold m_AlikeRow__asked
    intro e he; cases he
  have fn_55 : FnOk P w K mg base CX0 1 _ fd55 ["self"] (spFn (CtOf K w CN CF) F_AlikeRow__asked) := fn_ok (k := 0) D55 sc_AlikeRow__asked rfl ⟨rfl, rfl⟩ k_AlikeRow__asked rfl (by decide) (tab_ok T_AlikeRow__asked) FL M_AlikeRow__asked
  have bd_55 : Binds K fd55 ["self"] [] := D55.bindsN (fun _ _ _ _ _ _ us hl => match us, hl with | [_], _ => rfl)
  have mo_55 : MOk P w K mg base (CtOf K w CN CF) 1 14 "asked" F_AlikeRow__asked := me_ok (y := "AlikeRow") rfl (He.cls_ok (c.fact 50 (f := .cls "AlikeRow") rfl)) (He.meth_ok (c.fact 115 (f := .meth "AlikeRow" "asked") rfl)) fn_55 bd_55 (by decide +kernel)
  have T_TableRow__asked : ∀ p ∈ t_TableRow__asked, GOk P w K mg base (CtOf K w CN CF) 0 p.1 p.2 := by
    unfold t_TableRow__asked
    simp only [List.forall_mem_cons, List.not_mem_nil, false_implies, implies_true, and_true]
    exact He.free_ok X G (c.fact 191 (f := .free "list") rfl)
  have M_TableRow__asked : ∀ m io tb, msOf m_TableRow__asked m = some (io, tb) → ∀ q f, tb q = some f → f.io = io ∧ MOk P w K mg base (CtOf K w CN CF) 0 q m f := by
    refine ms_ok ?_
    unfold m_TableRow__asked
    intro e he; cases he
  have fn_60 : FnOk P w K mg base CX0 1 _ fd60 ["self"] (spFn (CtOf K w CN CF) F_TableRow__asked) := fn_ok (k := 0) D60 sc_TableRow__asked rfl ⟨rfl, rfl⟩ k_TableRow__asked rfl (by decide) (tab_ok T_TableRow__asked) FL M_TableRow__asked
  have bd_60 : Binds K fd60 ["self"] [] := D60.bindsN (fun _ _ _ _ _ _ us hl => match us, hl with | [_], _ => rfl)
  have mo_60 : MOk P w K mg base (CtOf K w CN CF) 1 19 "asked" F_TableRow__asked := me_ok (y := "TableRow") rfl (He.cls_ok (c.fact 60 (f := .cls "TableRow") rfl)) (He.meth_ok (c.fact 120 (f := .meth "TableRow" "asked") rfl)) fn_60 bd_60 (by decide +kernel)
  have T_asked_by : ∀ p ∈ t_asked_by, GOk P w K mg base (CtOf K w CN CF) 4 p.1 p.2 := by
    unfold t_asked_by
    simp only [List.forall_mem_cons, List.not_mem_nil, false_implies, implies_true, and_true]
    exact GOk.mono (by decide) g_row_of
  have M_asked_by : ∀ m io tb, msOf m_asked_by m = some (io, tb) → ∀ q f, tb q = some f → f.io = io ∧ MOk P w K mg base (CtOf K w CN CF) 4 q m f := by
    refine ms_ok ?_
    unfold m_asked_by
    simp only [mt_asked, List.forall_mem_cons, List.not_mem_nil, false_implies, implies_true, and_true]
    exact ⟨⟨rfl, MOk.mono (by decide) mo_41⟩, ⟨rfl, MOk.mono (by decide) mo_42⟩, ⟨rfl, MOk.mono (by decide) mo_43⟩, ⟨rfl, MOk.mono (by decide) mo_44⟩, ⟨rfl, MOk.mono (by decide) mo_45⟩, ⟨rfl, MOk.mono (by decide) mo_46⟩, ⟨rfl, MOk.mono (by decide) mo_47⟩, ⟨rfl, MOk.mono (by decide) mo_48⟩, ⟨rfl, MOk.mono (by decide) mo_49⟩, ⟨rfl, MOk.mono (by decide) mo_50⟩, ⟨rfl, MOk.mono (by decide) mo_51⟩, ⟨rfl, MOk.mono (by decide) mo_52⟩, ⟨rfl, MOk.mono (by decide) mo_53⟩, ⟨rfl, MOk.mono (by decide) mo_54⟩, ⟨rfl, MOk.mono (by decide) mo_55⟩, ⟨rfl, MOk.mono (by decide) mo_56⟩, ⟨rfl, MOk.mono (by decide) mo_57⟩, ⟨rfl, MOk.mono (by decide) mo_58⟩, ⟨rfl, MOk.mono (by decide) mo_59⟩, ⟨rfl, MOk.mono (by decide) mo_60⟩⟩
  have fn_8 : FnOk P w K mg base CX0 5 _ fd8 ["row"] (spFn (CtOf K w CN CF) F_asked_by) := fn_ok (k := 4) D8 sc_asked_by rfl ⟨rfl, rfl⟩ k_asked_by rfl (by decide) (tab_ok T_asked_by) FL M_asked_by
  have bd_8 : Binds K fd8 ["row"] [] := D8.bindsN (fun _ _ _ _ _ _ us hl => match us, hl with | [_], _ => rfl)
  have g_asked_by : GOk P w K mg base (CtOf K w CN CF) 5 "asked_by" (.fn F_asked_by) := ⟨_, _, _, He.glo_ok X G (c.fact 8 (f := .glo "asked_by") rfl), fn_8, D8.kp, bd_8⟩
  have T__law_mixed : ∀ p ∈ t__law_mixed, GOk P w K mg base (CtOf K w CN CF) 0 p.1 p.2 := by
    unfold t__law_mixed
    intro p hp; cases hp
  have M__law_mixed : ∀ m io tb, msOf m__law_mixed m = some (io, tb) → ∀ q f, tb q = some f → f.io = io ∧ MOk P w K mg base (CtOf K w CN CF) 0 q m f := by
    refine ms_ok ?_
    unfold m__law_mixed
    intro e he; cases he
  have fn_9 : FnOk P w K mg base CX0 1 _ fd9 ["_law_cell", "_law_k"] (spFn (CtOf K w CN CF) F__law_mixed) := fn_ok (k := 0) D9 sc__law_mixed rfl ⟨rfl, rfl⟩ k__law_mixed rfl (by decide) (tab_ok T__law_mixed) FL M__law_mixed
  have bd_9 : Binds K fd9 ["_law_cell", "_law_k"] [] := D9.bindsN (fun _ _ _ _ _ _ us hl => match us, hl with | [_, _], _ => rfl)
  have g__law_mixed : GOk P w K mg base (CtOf K w CN CF) 1 "_law_mixed" (.fn F__law_mixed) := ⟨_, _, _, He.glo_ok X G (c.fact 9 (f := .glo "_law_mixed") rfl), fn_9, D9.kp, bd_9⟩
  have T__law_draws : ∀ p ∈ t__law_draws, GOk P w K mg base (CtOf K w CN CF) 1 p.1 p.2 := by
    unfold t__law_draws
    simp only [List.forall_mem_cons, List.not_mem_nil, false_implies, implies_true, and_true]
    exact ⟨He.free_ok X G (c.fact 194 (f := .free "range") rfl), GOk.mono (by decide) g__law_mixed⟩
  have M__law_draws : ∀ m io tb, msOf m__law_draws m = some (io, tb) → ∀ q f, tb q = some f → f.io = io ∧ MOk P w K mg base (CtOf K w CN CF) 1 q m f := by
    refine ms_ok ?_
    unfold m__law_draws
    intro e he; cases he
  have fn_10 : FnOk P w K mg base CX0 2 _ fd10 ["_law_cell", "_law_many"] (spFn (CtOf K w CN CF) F__law_draws) := fn_ok (k := 1) D10 sc__law_draws rfl ⟨rfl, rfl⟩ k__law_draws rfl (by decide) (tab_ok T__law_draws) FL M__law_draws
  have bd_10 : Binds K fd10 ["_law_cell", "_law_many"] [] := D10.bindsN (fun _ _ _ _ _ _ us hl => match us, hl with | [_, _], _ => rfl)
  have g__law_draws : GOk P w K mg base (CtOf K w CN CF) 2 "_law_draws" (.fn F__law_draws) := ⟨_, _, _, He.glo_ok X G (c.fact 10 (f := .glo "_law_draws") rfl), fn_10, D10.kp, bd_10⟩
  have T__law_name : ∀ p ∈ t__law_name, GOk P w K mg base (CtOf K w CN CF) 0 p.1 p.2 := by
    unfold t__law_name
    intro p hp; cases hp
  have M__law_name : ∀ m io tb, msOf m__law_name m = some (io, tb) → ∀ q f, tb q = some f → f.io = io ∧ MOk P w K mg base (CtOf K w CN CF) 0 q m f := by
    refine ms_ok ?_
    unfold m__law_name
    intro e he; cases he
  have fn_11 : FnOk P w K mg base CX0 1 _ fd11 ["_law_draw"] (spFn (CtOf K w CN CF) F__law_name) := fn_ok (k := 0) D11 sc__law_name rfl ⟨rfl, rfl⟩ k__law_name rfl (by decide) (tab_ok T__law_name) FL M__law_name
  have bd_11 : Binds K fd11 ["_law_draw"] [] := D11.bindsN (fun _ _ _ _ _ _ us hl => match us, hl with | [_], _ => rfl)
  have g__law_name : GOk P w K mg base (CtOf K w CN CF) 1 "_law_name" (.fn F__law_name) := ⟨_, _, _, He.glo_ok X G (c.fact 11 (f := .glo "_law_name") rfl), fn_11, D11.kp, bd_11⟩
  have T__law_number : ∀ p ∈ t__law_number, GOk P w K mg base (CtOf K w CN CF) 0 p.1 p.2 := by
    unfold t__law_number
    intro p hp; cases hp
  have M__law_number : ∀ m io tb, msOf m__law_number m = some (io, tb) → ∀ q f, tb q = some f → f.io = io ∧ MOk P w K mg base (CtOf K w CN CF) 0 q m f := by
    refine ms_ok ?_
    unfold m__law_number
    intro e he; cases he
  have fn_12 : FnOk P w K mg base CX0 1 _ fd12 ["_law_draw", "_law_more"] (spFn (CtOf K w CN CF) F__law_number) := fn_ok (k := 0) D12 sc__law_number rfl ⟨rfl, rfl⟩ k__law_number rfl (by decide) (tab_ok T__law_number) FL M__law_number
  have bd_12 : Binds K fd12 ["_law_draw", "_law_more"] [] := D12.bindsN (fun _ _ _ _ _ _ us hl => match us, hl with | [_, _], _ => rfl)
  have g__law_number : GOk P w K mg base (CtOf K w CN CF) 1 "_law_number" (.fn F__law_number) := ⟨_, _, _, He.glo_ok X G (c.fact 12 (f := .glo "_law_number") rfl), fn_12, D12.kp, bd_12⟩
  have T__law_list : ∀ p ∈ t__law_list, GOk P w K mg base (CtOf K w CN CF) 1 p.1 p.2 := by
    unfold t__law_list
    simp only [List.forall_mem_cons, List.not_mem_nil, false_implies, implies_true, and_true]
    exact ⟨GOk.mono (by decide) g__law_name, GOk.mono (by decide) g__law_number, He.free_ok X G (c.fact 195 (f := .free "enumerate") rfl)⟩
  have M__law_list : ∀ m io tb, msOf m__law_list m = some (io, tb) → ∀ q f, tb q = some f → f.io = io ∧ MOk P w K mg base (CtOf K w CN CF) 1 q m f := by
    refine ms_ok ?_
    unfold m__law_list
    intro e he; cases he
  have fn_13 : FnOk P w K mg base CX0 2 _ fd13 ["_law_kind", "_law_draws_here"] (spFn (CtOf K w CN CF) F__law_list) := fn_ok (k := 1) D13 sc__law_list rfl ⟨rfl, rfl⟩ k__law_list rfl (by decide) (tab_ok T__law_list) FL M__law_list
  have bd_13 : Binds K fd13 ["_law_kind", "_law_draws_here"] [] := D13.bindsN (fun _ _ _ _ _ _ us hl => match us, hl with | [_, _], _ => rfl)
  have g__law_list : GOk P w K mg base (CtOf K w CN CF) 2 "_law_list" (.fn F__law_list) := ⟨_, _, _, He.glo_ok X G (c.fact 13 (f := .glo "_law_list") rfl), fn_13, D13.kp, bd_13⟩
  have T__law_told : ∀ p ∈ t__law_told, GOk P w K mg base (CtOf K w CN CF) 2 p.1 p.2 := by
    unfold t__law_told
    simp only [List.forall_mem_cons, List.not_mem_nil, false_implies, implies_true, and_true]
    exact ⟨GOk.mono (by decide) g__law_list, GOk.mono (by decide) g__law_number, GOk.mono (by decide) g__law_name⟩
  have M__law_told : ∀ m io tb, msOf m__law_told m = some (io, tb) → ∀ q f, tb q = some f → f.io = io ∧ MOk P w K mg base (CtOf K w CN CF) 2 q m f := by
    refine ms_ok ?_
    unfold m__law_told
    intro e he; cases he
  have fn_14 : FnOk P w K mg base CX0 3 _ fd14 ["_law_draws_here"] (spFn (CtOf K w CN CF) F__law_told) := fn_ok (k := 2) D14 sc__law_told rfl ⟨rfl, rfl⟩ k__law_told rfl (by decide) (tab_ok T__law_told) FL M__law_told
  have bd_14 : Binds K fd14 ["_law_draws_here"] [] := D14.bindsN (fun _ _ _ _ _ _ us hl => match us, hl with | [_], _ => rfl)
  have g__law_told : GOk P w K mg base (CtOf K w CN CF) 3 "_law_told" (.fn F__law_told) := ⟨_, _, _, He.glo_ok X G (c.fact 14 (f := .glo "_law_told") rfl), fn_14, D14.kp, bd_14⟩
  have T__law_due_names : ∀ p ∈ t__law_due_names, GOk P w K mg base (CtOf K w CN CF) 0 p.1 p.2 := by
    unfold t__law_due_names
    simp only [List.forall_mem_cons, List.not_mem_nil, false_implies, implies_true, and_true]
    exact He.free_ok X G (c.fact 191 (f := .free "list") rfl)
  have M__law_due_names : ∀ m io tb, msOf m__law_due_names m = some (io, tb) → ∀ q f, tb q = some f → f.io = io ∧ MOk P w K mg base (CtOf K w CN CF) 0 q m f := by
    refine ms_ok ?_
    unfold m__law_due_names
    intro e he; cases he
  have fn_15 : FnOk P w K mg base CX0 1 _ fd15 ["_law_told_here"] (spFn (CtOf K w CN CF) F__law_due_names) := fn_ok (k := 0) D15 sc__law_due_names rfl ⟨rfl, rfl⟩ k__law_due_names rfl (by decide) (tab_ok T__law_due_names) FL M__law_due_names
  have bd_15 : Binds K fd15 ["_law_told_here"] [] := D15.bindsN (fun _ _ _ _ _ _ us hl => match us, hl with | [_], _ => rfl)
  have g__law_due_names : GOk P w K mg base (CtOf K w CN CF) 1 "_law_due_names" (.fn F__law_due_names) := ⟨_, _, _, He.glo_ok X G (c.fact 15 (f := .glo "_law_due_names") rfl), fn_15, D15.kp, bd_15⟩
  have T__law_due_lengths : ∀ p ∈ t__law_due_lengths, GOk P w K mg base (CtOf K w CN CF) 0 p.1 p.2 := by
    unfold t__law_due_lengths
    simp only [List.forall_mem_cons, List.not_mem_nil, false_implies, implies_true, and_true]
    exact He.free_ok X G (c.fact 182 (f := .free "len") rfl)
  have M__law_due_lengths : ∀ m io tb, msOf m__law_due_lengths m = some (io, tb) → ∀ q f, tb q = some f → f.io = io ∧ MOk P w K mg base (CtOf K w CN CF) 0 q m f := by
    refine ms_ok ?_
    unfold m__law_due_lengths
    intro e he; cases he
  have fn_16 : FnOk P w K mg base CX0 1 _ fd16 ["_law_told_here"] (spFn (CtOf K w CN CF) F__law_due_lengths) := fn_ok (k := 0) D16 sc__law_due_lengths rfl ⟨rfl, rfl⟩ k__law_due_lengths rfl (by decide) (tab_ok T__law_due_lengths) FL M__law_due_lengths
  have bd_16 : Binds K fd16 ["_law_told_here"] [] := D16.bindsN (fun _ _ _ _ _ _ us hl => match us, hl with | [_], _ => rfl)
  have g__law_due_lengths : GOk P w K mg base (CtOf K w CN CF) 1 "_law_due_lengths" (.fn F__law_due_lengths) := ⟨_, _, _, He.glo_ok X G (c.fact 16 (f := .glo "_law_due_lengths") rfl), fn_16, D16.kp, bd_16⟩
  have T__law_kinds : ∀ p ∈ t__law_kinds, GOk P w K mg base (CtOf K w CN CF) 0 p.1 p.2 := by
    unfold t__law_kinds
    simp only [List.forall_mem_cons, List.not_mem_nil, false_implies, implies_true, and_true]
    exact ⟨He.free_ok X G (c.fact 184 (f := .free "isinstance") rfl), cl_ok (fun _ z => by cases z) (io_ok rfl rfl (He.glo_ok X G (c.fact 55 (f := .glo "DataRow") rfl)) cx0), cl_ok (fun _ z => by cases z) (io_ok rfl rfl (He.glo_ok X G (c.fact 25 (f := .glo "CodeRow") rfl)) cx1), cl_ok (fun _ z => by cases z) (io_ok rfl rfl (He.glo_ok X G (c.fact 23 (f := .glo "MarkRow") rfl)) cx2)⟩
  have M__law_kinds : ∀ m io tb, msOf m__law_kinds m = some (io, tb) → ∀ q f, tb q = some f → f.io = io ∧ MOk P w K mg base (CtOf K w CN CF) 0 q m f := by
    refine ms_ok ?_
    unfold m__law_kinds
    intro e he; cases he
  have fn_17 : FnOk P w K mg base CX0 1 _ fd17 ["_law_row"] (spFn (CtOf K w CN CF) F__law_kinds) := fn_ok (k := 0) D17 sc__law_kinds rfl ⟨rfl, rfl⟩ k__law_kinds rfl (by decide) (tab_ok T__law_kinds) FL M__law_kinds
  have bd_17 : Binds K fd17 ["_law_row"] [] := D17.bindsN (fun _ _ _ _ _ _ us hl => match us, hl with | [_], _ => rfl)
  have g__law_kinds : GOk P w K mg base (CtOf K w CN CF) 1 "_law_kinds" (.fn F__law_kinds) := ⟨_, _, _, He.glo_ok X G (c.fact 17 (f := .glo "_law_kinds") rfl), fn_17, D17.kp, bd_17⟩
  have T_Row__goes_on : ∀ p ∈ t_Row__goes_on, GOk P w K mg base (CtOf K w CN CF) 0 p.1 p.2 := by
    unfold t_Row__goes_on
    intro p hp; cases hp
  have M_Row__goes_on : ∀ m io tb, msOf m_Row__goes_on m = some (io, tb) → ∀ q f, tb q = some f → f.io = io ∧ MOk P w K mg base (CtOf K w CN CF) 0 q m f := by
    refine ms_ok ?_
    unfold m_Row__goes_on
    intro e he; cases he
  have fn_81 : FnOk P w K mg base CX0 1 _ fd81 ["self"] (spFn (CtOf K w CN CF) F_Row__goes_on) := fn_ok (k := 0) D81 sc_Row__goes_on rfl ⟨rfl, rfl⟩ k_Row__goes_on rfl (by decide) (tab_ok T_Row__goes_on) FL M_Row__goes_on
  have bd_81 : Binds K fd81 ["self"] [] := D81.bindsN (fun _ _ _ _ _ _ us hl => match us, hl with | [_], _ => rfl)
  have mo_81 : MOk P w K mg base (CtOf K w CN CF) 1 0 "goes_on" F_Row__goes_on := me_ok (y := "Row") rfl (He.cls_ok (c.fact 22 (f := .cls "Row") rfl)) (He.meth_ok (c.fact 141 (f := .meth "Row" "goes_on") rfl)) fn_81 bd_81 (by decide +kernel)
  have fn_82 : FnOk P w K mg base CX0 1 _ fd82 ["self"] (spFn (CtOf K w CN CF) F_Row__goes_on) := fn_ok (k := 0) D82 sc_Row__goes_on rfl ⟨rfl, rfl⟩ k_Row__goes_on rfl (by decide) (tab_ok T_Row__goes_on) FL M_Row__goes_on
  have bd_82 : Binds K fd82 ["self"] [] := D82.bindsN (fun _ _ _ _ _ _ us hl => match us, hl with | [_], _ => rfl)
  have mo_82 : MOk P w K mg base (CtOf K w CN CF) 1 1 "goes_on" F_Row__goes_on := me_ok (y := "MarkRow") rfl (He.cls_ok (c.fact 24 (f := .cls "MarkRow") rfl)) (He.meth_ok (c.fact 142 (f := .meth "MarkRow" "goes_on") rfl)) fn_82 bd_82 (by decide +kernel)
  have fn_98 : FnOk P w K mg base CX0 1 _ fd98 ["self"] (spFn (CtOf K w CN CF) F_Row__goes_on) := fn_ok (k := 0) D98 sc_Row__goes_on rfl ⟨rfl, rfl⟩ k_Row__goes_on rfl (by decide) (tab_ok T_Row__goes_on) FL M_Row__goes_on
  have bd_98 : Binds K fd98 ["self"] [] := D98.bindsN (fun _ _ _ _ _ _ us hl => match us, hl with | [_], _ => rfl)
  have mo_98 : MOk P w K mg base (CtOf K w CN CF) 1 17 "goes_on" F_Row__goes_on := me_ok (y := "DataRow") rfl (He.cls_ok (c.fact 56 (f := .cls "DataRow") rfl)) (He.meth_ok (c.fact 158 (f := .meth "DataRow" "goes_on") rfl)) fn_98 bd_98 (by decide +kernel)
  have fn_99 : FnOk P w K mg base CX0 1 _ fd99 ["self"] (spFn (CtOf K w CN CF) F_Row__goes_on) := fn_ok (k := 0) D99 sc_Row__goes_on rfl ⟨rfl, rfl⟩ k_Row__goes_on rfl (by decide) (tab_ok T_Row__goes_on) FL M_Row__goes_on
  have bd_99 : Binds K fd99 ["self"] [] := D99.bindsN (fun _ _ _ _ _ _ us hl => match us, hl with | [_], _ => rfl)
  have mo_99 : MOk P w K mg base (CtOf K w CN CF) 1 18 "goes_on" F_Row__goes_on := me_ok (y := "NumbersRow") rfl (He.cls_ok (c.fact 58 (f := .cls "NumbersRow") rfl)) (He.meth_ok (c.fact 159 (f := .meth "NumbersRow" "goes_on") rfl)) fn_99 bd_99 (by decide +kernel)
  have fn_100 : FnOk P w K mg base CX0 1 _ fd100 ["self"] (spFn (CtOf K w CN CF) F_Row__goes_on) := fn_ok (k := 0) D100 sc_Row__goes_on rfl ⟨rfl, rfl⟩ k_Row__goes_on rfl (by decide) (tab_ok T_Row__goes_on) FL M_Row__goes_on
  have bd_100 : Binds K fd100 ["self"] [] := D100.bindsN (fun _ _ _ _ _ _ us hl => match us, hl with | [_], _ => rfl)
  have mo_100 : MOk P w K mg base (CtOf K w CN CF) 1 19 "goes_on" F_Row__goes_on := me_ok (y := "TableRow") rfl (He.cls_ok (c.fact 60 (f := .cls "TableRow") rfl)) (He.meth_ok (c.fact 160 (f := .meth "TableRow" "goes_on") rfl)) fn_100 bd_100 (by decide +kernel)
  have T_CodeRow__goes_on : ∀ p ∈ t_CodeRow__goes_on, GOk P w K mg base (CtOf K w CN CF) 0 p.1 p.2 := by
    unfold t_CodeRow__goes_on
    intro p hp; cases hp
  have M_CodeRow__goes_on : ∀ m io tb, msOf m_CodeRow__goes_on m = some (io, tb) → ∀ q f, tb q = some f → f.io = io ∧ MOk P w K mg base (CtOf K w CN CF) 0 q m f := by
    refine ms_ok ?_
    unfold m_CodeRow__goes_on
    intro e he; cases he
  have fn_83 : FnOk P w K mg base CX0 1 _ fd83 ["self"] (spFn (CtOf K w CN CF) F_CodeRow__goes_on) := fn_ok (k := 0) D83 sc_CodeRow__goes_on rfl ⟨rfl, rfl⟩ k_CodeRow__goes_on rfl (by decide) (tab_ok T_CodeRow__goes_on) FL M_CodeRow__goes_on
  have bd_83 : Binds K fd83 ["self"] [] := D83.bindsN (fun _ _ _ _ _ _ us hl => match us, hl with | [_], _ => rfl)
  have mo_83 : MOk P w K mg base (CtOf K w CN CF) 1 2 "goes_on" F_CodeRow__goes_on := me_ok (y := "CodeRow") rfl (He.cls_ok (c.fact 26 (f := .cls "CodeRow") rfl)) (He.meth_ok (c.fact 143 (f := .meth "CodeRow" "goes_on") rfl)) fn_83 bd_83 (by decide +kernel)
  have fn_84 : FnOk P w K mg base CX0 1 _ fd84 ["self"] (spFn (CtOf K w CN CF) F_CodeRow__goes_on) := fn_ok (k := 0) D84 sc_CodeRow__goes_on rfl ⟨rfl, rfl⟩ k_CodeRow__goes_on rfl (by decide) (tab_ok T_CodeRow__goes_on) FL M_CodeRow__goes_on
  have bd_84 : Binds K fd84 ["self"] [] := D84.bindsN (fun _ _ _ _ _ _ us hl => match us, hl with | [_], _ => rfl)
  have mo_84 : MOk P w K mg base (CtOf K w CN CF) 1 3 "goes_on" F_CodeRow__goes_on := me_ok (y := "SetRow") rfl (He.cls_ok (c.fact 28 (f := .cls "SetRow") rfl)) (He.meth_ok (c.fact 144 (f := .meth "SetRow" "goes_on") rfl)) fn_84 bd_84 (by decide +kernel)
  have fn_85 : FnOk P w K mg base CX0 1 _ fd85 ["self"] (spFn (CtOf K w CN CF) F_CodeRow__goes_on) := fn_ok (k := 0) D85 sc_CodeRow__goes_on rfl ⟨rfl, rfl⟩ k_CodeRow__goes_on rfl (by decide) (tab_ok T_CodeRow__goes_on) FL M_CodeRow__goes_on
  have bd_85 : Binds K fd85 ["self"] [] := D85.bindsN (fun _ _ _ _ _ _ us hl => match us, hl with | [_], _ => rfl)
  have mo_85 : MOk P w K mg base (CtOf K w CN CF) 1 4 "goes_on" F_CodeRow__goes_on := me_ok (y := "AddRow") rfl (He.cls_ok (c.fact 30 (f := .cls "AddRow") rfl)) (He.meth_ok (c.fact 145 (f := .meth "AddRow" "goes_on") rfl)) fn_85 bd_85 (by decide +kernel)
  have fn_86 : FnOk P w K mg base CX0 1 _ fd86 ["self"] (spFn (CtOf K w CN CF) F_CodeRow__goes_on) := fn_ok (k := 0) D86 sc_CodeRow__goes_on rfl ⟨rfl, rfl⟩ k_CodeRow__goes_on rfl (by decide) (tab_ok T_CodeRow__goes_on) FL M_CodeRow__goes_on
  have bd_86 : Binds K fd86 ["self"] [] := D86.bindsN (fun _ _ _ _ _ _ us hl => match us, hl with | [_], _ => rfl)
  have mo_86 : MOk P w K mg base (CtOf K w CN CF) 1 5 "goes_on" F_CodeRow__goes_on := me_ok (y := "TakeRow") rfl (He.cls_ok (c.fact 32 (f := .cls "TakeRow") rfl)) (He.meth_ok (c.fact 146 (f := .meth "TakeRow" "goes_on") rfl)) fn_86 bd_86 (by decide +kernel)
  have fn_87 : FnOk P w K mg base CX0 1 _ fd87 ["self"] (spFn (CtOf K w CN CF) F_CodeRow__goes_on) := fn_ok (k := 0) D87 sc_CodeRow__goes_on rfl ⟨rfl, rfl⟩ k_CodeRow__goes_on rfl (by decide) (tab_ok T_CodeRow__goes_on) FL M_CodeRow__goes_on
  have bd_87 : Binds K fd87 ["self"] [] := D87.bindsN (fun _ _ _ _ _ _ us hl => match us, hl with | [_], _ => rfl)
  have mo_87 : MOk P w K mg base (CtOf K w CN CF) 1 6 "goes_on" F_CodeRow__goes_on := me_ok (y := "SayRow") rfl (He.cls_ok (c.fact 34 (f := .cls "SayRow") rfl)) (He.meth_ok (c.fact 147 (f := .meth "SayRow" "goes_on") rfl)) fn_87 bd_87 (by decide +kernel)
  have fn_88 : FnOk P w K mg base CX0 1 _ fd88 ["self"] (spFn (CtOf K w CN CF) F_CodeRow__goes_on) := fn_ok (k := 0) D88 sc_CodeRow__goes_on rfl ⟨rfl, rfl⟩ k_CodeRow__goes_on rfl (by decide) (tab_ok T_CodeRow__goes_on) FL M_CodeRow__goes_on
  have bd_88 : Binds K fd88 ["self"] [] := D88.bindsN (fun _ _ _ _ _ _ us hl => match us, hl with | [_], _ => rfl)
  have mo_88 : MOk P w K mg base (CtOf K w CN CF) 1 7 "goes_on" F_CodeRow__goes_on := me_ok (y := "AskRow") rfl (He.cls_ok (c.fact 36 (f := .cls "AskRow") rfl)) (He.meth_ok (c.fact 148 (f := .meth "AskRow" "goes_on") rfl)) fn_88 bd_88 (by decide +kernel)
  have fn_89 : FnOk P w K mg base CX0 1 _ fd89 ["self"] (spFn (CtOf K w CN CF) F_CodeRow__goes_on) := fn_ok (k := 0) D89 sc_CodeRow__goes_on rfl ⟨rfl, rfl⟩ k_CodeRow__goes_on rfl (by decide) (tab_ok T_CodeRow__goes_on) FL M_CodeRow__goes_on
  have bd_89 : Binds K fd89 ["self"] [] := D89.bindsN (fun _ _ _ _ _ _ us hl => match us, hl with | [_], _ => rfl)
  have mo_89 : MOk P w K mg base (CtOf K w CN CF) 1 8 "goes_on" F_CodeRow__goes_on := me_ok (y := "AimRow") rfl (He.cls_ok (c.fact 38 (f := .cls "AimRow") rfl)) (He.meth_ok (c.fact 149 (f := .meth "AimRow" "goes_on") rfl)) fn_89 bd_89 (by decide +kernel)
  have fn_91 : FnOk P w K mg base CX0 1 _ fd91 ["self"] (spFn (CtOf K w CN CF) F_CodeRow__goes_on) := fn_ok (k := 0) D91 sc_CodeRow__goes_on rfl ⟨rfl, rfl⟩ k_CodeRow__goes_on rfl (by decide) (tab_ok T_CodeRow__goes_on) FL M_CodeRow__goes_on
  have bd_91 : Binds K fd91 ["self"] [] := D91.bindsN (fun _ _ _ _ _ _ us hl => match us, hl with | [_], _ => rfl)
  have mo_91 : MOk P w K mg base (CtOf K w CN CF) 1 10 "goes_on" F_CodeRow__goes_on := me_ok (y := "JumpIfRow") rfl (He.cls_ok (c.fact 42 (f := .cls "JumpIfRow") rfl)) (He.meth_ok (c.fact 151 (f := .meth "JumpIfRow" "goes_on") rfl)) fn_91 bd_91 (by decide +kernel)
  have fn_92 : FnOk P w K mg base CX0 1 _ fd92 ["self"] (spFn (CtOf K w CN CF) F_CodeRow__goes_on) := fn_ok (k := 0) D92 sc_CodeRow__goes_on rfl ⟨rfl, rfl⟩ k_CodeRow__goes_on rfl (by decide) (tab_ok T_CodeRow__goes_on) FL M_CodeRow__goes_on
  have bd_92 : Binds K fd92 ["self"] [] := D92.bindsN (fun _ _ _ _ _ _ us hl => match us, hl with | [_], _ => rfl)
  have mo_92 : MOk P w K mg base (CtOf K w CN CF) 1 11 "goes_on" F_CodeRow__goes_on := me_ok (y := "CallRow") rfl (He.cls_ok (c.fact 44 (f := .cls "CallRow") rfl)) (He.meth_ok (c.fact 152 (f := .meth "CallRow" "goes_on") rfl)) fn_92 bd_92 (by decide +kernel)
  have fn_93 : FnOk P w K mg base CX0 1 _ fd93 ["self"] (spFn (CtOf K w CN CF) F_CodeRow__goes_on) := fn_ok (k := 0) D93 sc_CodeRow__goes_on rfl ⟨rfl, rfl⟩ k_CodeRow__goes_on rfl (by decide) (tab_ok T_CodeRow__goes_on) FL M_CodeRow__goes_on
  have bd_93 : Binds K fd93 ["self"] [] := D93.bindsN (fun _ _ _ _ _ _ us hl => match us, hl with | [_], _ => rfl)
  have mo_93 : MOk P w K mg base (CtOf K w CN CF) 1 12 "goes_on" F_CodeRow__goes_on := me_ok (y := "LoadRow") rfl (He.cls_ok (c.fact 46 (f := .cls "LoadRow") rfl)) (He.meth_ok (c.fact 153 (f := .meth "LoadRow" "goes_on") rfl)) fn_93 bd_93 (by decide +kernel)
  have fn_95 : FnOk P w K mg base CX0 1 _ fd95 ["self"] (spFn (CtOf K w CN CF) F_CodeRow__goes_on) := fn_ok (k := 0) D95 sc_CodeRow__goes_on rfl ⟨rfl, rfl⟩ k_CodeRow__goes_on rfl (by decide) (tab_ok T_CodeRow__goes_on) FL M_CodeRow__goes_on
  have bd_95 : Binds K fd95 ["self"] [] := D95.bindsN (fun _ _ _ _ _ _ us hl => match us, hl with | [_], _ => rfl)
  have mo_95 : MOk P w K mg base (CtOf K w CN CF) 1 14 "goes_on" F_CodeRow__goes_on := me_ok (y := "AlikeRow") rfl (He.cls_ok (c.fact 50 (f := .cls "AlikeRow") rfl)) (He.meth_ok (c.fact 155 (f := .meth "AlikeRow" "goes_on") rfl)) fn_95 bd_95 (by decide +kernel)
  have T_JumpRow__goes_on : ∀ p ∈ t_JumpRow__goes_on, GOk P w K mg base (CtOf K w CN CF) 0 p.1 p.2 := by
    unfold t_JumpRow__goes_on
    intro p hp; cases hp
  have M_JumpRow__goes_on : ∀ m io tb, msOf m_JumpRow__goes_on m = some (io, tb) → ∀ q f, tb q = some f → f.io = io ∧ MOk P w K mg base (CtOf K w CN CF) 0 q m f := by
    refine ms_ok ?_
    unfold m_JumpRow__goes_on
    intro e he; cases he
  have fn_90 : FnOk P w K mg base CX0 1 _ fd90 ["self"] (spFn (CtOf K w CN CF) F_JumpRow__goes_on) := fn_ok (k := 0) D90 sc_JumpRow__goes_on rfl ⟨rfl, rfl⟩ k_JumpRow__goes_on rfl (by decide) (tab_ok T_JumpRow__goes_on) FL M_JumpRow__goes_on
  have bd_90 : Binds K fd90 ["self"] [] := D90.bindsN (fun _ _ _ _ _ _ us hl => match us, hl with | [_], _ => rfl)
  have mo_90 : MOk P w K mg base (CtOf K w CN CF) 1 9 "goes_on" F_JumpRow__goes_on := me_ok (y := "JumpRow") rfl (He.cls_ok (c.fact 40 (f := .cls "JumpRow") rfl)) (He.meth_ok (c.fact 150 (f := .meth "JumpRow" "goes_on") rfl)) fn_90 bd_90 (by decide +kernel)
  have T_JumpByRow__goes_on : ∀ p ∈ t_JumpByRow__goes_on, GOk P w K mg base (CtOf K w CN CF) 0 p.1 p.2 := by
    unfold t_JumpByRow__goes_on
    intro p hp; cases hp
  have M_JumpByRow__goes_on : ∀ m io tb, msOf m_JumpByRow__goes_on m = some (io, tb) → ∀ q f, tb q = some f → f.io = io ∧ MOk P w K mg base (CtOf K w CN CF) 0 q m f := by
    refine ms_ok ?_
    unfold m_JumpByRow__goes_on
    intro e he; cases he
  have fn_94 : FnOk P w K mg base CX0 1 _ fd94 ["self"] (spFn (CtOf K w CN CF) F_JumpByRow__goes_on) := fn_ok (k := 0) D94 sc_JumpByRow__goes_on rfl ⟨rfl, rfl⟩ k_JumpByRow__goes_on rfl (by decide) (tab_ok T_JumpByRow__goes_on) FL M_JumpByRow__goes_on
  have bd_94 : Binds K fd94 ["self"] [] := D94.bindsN (fun _ _ _ _ _ _ us hl => match us, hl with | [_], _ => rfl)
  have mo_94 : MOk P w K mg base (CtOf K w CN CF) 1 13 "goes_on" F_JumpByRow__goes_on := me_ok (y := "JumpByRow") rfl (He.cls_ok (c.fact 48 (f := .cls "JumpByRow") rfl)) (He.meth_ok (c.fact 154 (f := .meth "JumpByRow" "goes_on") rfl)) fn_94 bd_94 (by decide +kernel)
  have T_BackRow__goes_on : ∀ p ∈ t_BackRow__goes_on, GOk P w K mg base (CtOf K w CN CF) 0 p.1 p.2 := by
    unfold t_BackRow__goes_on
    intro p hp; cases hp
  have M_BackRow__goes_on : ∀ m io tb, msOf m_BackRow__goes_on m = some (io, tb) → ∀ q f, tb q = some f → f.io = io ∧ MOk P w K mg base (CtOf K w CN CF) 0 q m f := by
    refine ms_ok ?_
    unfold m_BackRow__goes_on
    intro e he; cases he
  have fn_96 : FnOk P w K mg base CX0 1 _ fd96 ["self"] (spFn (CtOf K w CN CF) F_BackRow__goes_on) := fn_ok (k := 0) D96 sc_BackRow__goes_on rfl ⟨rfl, rfl⟩ k_BackRow__goes_on rfl (by decide) (tab_ok T_BackRow__goes_on) FL M_BackRow__goes_on
  have bd_96 : Binds K fd96 ["self"] [] := D96.bindsN (fun _ _ _ _ _ _ us hl => match us, hl with | [_], _ => rfl)
  have mo_96 : MOk P w K mg base (CtOf K w CN CF) 1 15 "goes_on" F_BackRow__goes_on := me_ok (y := "BackRow") rfl (He.cls_ok (c.fact 52 (f := .cls "BackRow") rfl)) (He.meth_ok (c.fact 156 (f := .meth "BackRow" "goes_on") rfl)) fn_96 bd_96 (by decide +kernel)
  have T_StopRow__goes_on : ∀ p ∈ t_StopRow__goes_on, GOk P w K mg base (CtOf K w CN CF) 0 p.1 p.2 := by
    unfold t_StopRow__goes_on
    intro p hp; cases hp
  have M_StopRow__goes_on : ∀ m io tb, msOf m_StopRow__goes_on m = some (io, tb) → ∀ q f, tb q = some f → f.io = io ∧ MOk P w K mg base (CtOf K w CN CF) 0 q m f := by
    refine ms_ok ?_
    unfold m_StopRow__goes_on
    intro e he; cases he
  have fn_97 : FnOk P w K mg base CX0 1 _ fd97 ["self"] (spFn (CtOf K w CN CF) F_StopRow__goes_on) := fn_ok (k := 0) D97 sc_StopRow__goes_on rfl ⟨rfl, rfl⟩ k_StopRow__goes_on rfl (by decide) (tab_ok T_StopRow__goes_on) FL M_StopRow__goes_on
  have bd_97 : Binds K fd97 ["self"] [] := D97.bindsN (fun _ _ _ _ _ _ us hl => match us, hl with | [_], _ => rfl)
  have mo_97 : MOk P w K mg base (CtOf K w CN CF) 1 16 "goes_on" F_StopRow__goes_on := me_ok (y := "StopRow") rfl (He.cls_ok (c.fact 54 (f := .cls "StopRow") rfl)) (He.meth_ok (c.fact 157 (f := .meth "StopRow" "goes_on") rfl)) fn_97 bd_97 (by decide +kernel)
  have T_Row__words : ∀ p ∈ t_Row__words, GOk P w K mg base (CtOf K w CN CF) 0 p.1 p.2 := by
    unfold t_Row__words
    intro p hp; cases hp
  have M_Row__words : ∀ m io tb, msOf m_Row__words m = some (io, tb) → ∀ q f, tb q = some f → f.io = io ∧ MOk P w K mg base (CtOf K w CN CF) 0 q m f := by
    refine ms_ok ?_
    unfold m_Row__words
    intro e he; cases he
  have fn_61 : FnOk P w K mg base CX0 1 _ fd61 ["self"] (spFn (CtOf K w CN CF) F_Row__words) := fn_ok (k := 0) D61 sc_Row__words rfl ⟨rfl, rfl⟩ k_Row__words rfl (by decide) (tab_ok T_Row__words) FL M_Row__words
  have bd_61 : Binds K fd61 ["self"] [] := D61.bindsN (fun _ _ _ _ _ _ us hl => match us, hl with | [_], _ => rfl)
  have mo_61 : MOk P w K mg base (CtOf K w CN CF) 1 0 "words" F_Row__words := me_ok (y := "Row") rfl (He.cls_ok (c.fact 22 (f := .cls "Row") rfl)) (He.meth_ok (c.fact 121 (f := .meth "Row" "words") rfl)) fn_61 bd_61 (by decide +kernel)
  have fn_62 : FnOk P w K mg base CX0 1 _ fd62 ["self"] (spFn (CtOf K w CN CF) F_Row__words) := fn_ok (k := 0) D62 sc_Row__words rfl ⟨rfl, rfl⟩ k_Row__words rfl (by decide) (tab_ok T_Row__words) FL M_Row__words
  have bd_62 : Binds K fd62 ["self"] [] := D62.bindsN (fun _ _ _ _ _ _ us hl => match us, hl with | [_], _ => rfl)
  have mo_62 : MOk P w K mg base (CtOf K w CN CF) 1 1 "words" F_Row__words := me_ok (y := "MarkRow") rfl (He.cls_ok (c.fact 24 (f := .cls "MarkRow") rfl)) (He.meth_ok (c.fact 122 (f := .meth "MarkRow" "words") rfl)) fn_62 bd_62 (by decide +kernel)
  have fn_63 : FnOk P w K mg base CX0 1 _ fd63 ["self"] (spFn (CtOf K w CN CF) F_Row__words) := fn_ok (k := 0) D63 sc_Row__words rfl ⟨rfl, rfl⟩ k_Row__words rfl (by decide) (tab_ok T_Row__words) FL M_Row__words
  have bd_63 : Binds K fd63 ["self"] [] := D63.bindsN (fun _ _ _ _ _ _ us hl => match us, hl with | [_], _ => rfl)
  have mo_63 : MOk P w K mg base (CtOf K w CN CF) 1 2 "words" F_Row__words := me_ok (y := "CodeRow") rfl (He.cls_ok (c.fact 26 (f := .cls "CodeRow") rfl)) (He.meth_ok (c.fact 123 (f := .meth "CodeRow" "words") rfl)) fn_63 bd_63 (by decide +kernel)
  have fn_64 : FnOk P w K mg base CX0 1 _ fd64 ["self"] (spFn (CtOf K w CN CF) F_Row__words) := fn_ok (k := 0) D64 sc_Row__words rfl ⟨rfl, rfl⟩ k_Row__words rfl (by decide) (tab_ok T_Row__words) FL M_Row__words
  have bd_64 : Binds K fd64 ["self"] [] := D64.bindsN (fun _ _ _ _ _ _ us hl => match us, hl with | [_], _ => rfl)
  have mo_64 : MOk P w K mg base (CtOf K w CN CF) 1 3 "words" F_Row__words := me_ok (y := "SetRow") rfl (He.cls_ok (c.fact 28 (f := .cls "SetRow") rfl)) (He.meth_ok (c.fact 124 (f := .meth "SetRow" "words") rfl)) fn_64 bd_64 (by decide +kernel)
  have fn_65 : FnOk P w K mg base CX0 1 _ fd65 ["self"] (spFn (CtOf K w CN CF) F_Row__words) := fn_ok (k := 0) D65 sc_Row__words rfl ⟨rfl, rfl⟩ k_Row__words rfl (by decide) (tab_ok T_Row__words) FL M_Row__words
  have bd_65 : Binds K fd65 ["self"] [] := D65.bindsN (fun _ _ _ _ _ _ us hl => match us, hl with | [_], _ => rfl)
  have mo_65 : MOk P w K mg base (CtOf K w CN CF) 1 4 "words" F_Row__words := me_ok (y := "AddRow") rfl (He.cls_ok (c.fact 30 (f := .cls "AddRow") rfl)) (He.meth_ok (c.fact 125 (f := .meth "AddRow" "words") rfl)) fn_65 bd_65 (by decide +kernel)
  have fn_66 : FnOk P w K mg base CX0 1 _ fd66 ["self"] (spFn (CtOf K w CN CF) F_Row__words) := fn_ok (k := 0) D66 sc_Row__words rfl ⟨rfl, rfl⟩ k_Row__words rfl (by decide) (tab_ok T_Row__words) FL M_Row__words
  have bd_66 : Binds K fd66 ["self"] [] := D66.bindsN (fun _ _ _ _ _ _ us hl => match us, hl with | [_], _ => rfl)
  have mo_66 : MOk P w K mg base (CtOf K w CN CF) 1 5 "words" F_Row__words := me_ok (y := "TakeRow") rfl (He.cls_ok (c.fact 32 (f := .cls "TakeRow") rfl)) (He.meth_ok (c.fact 126 (f := .meth "TakeRow" "words") rfl)) fn_66 bd_66 (by decide +kernel)
  have fn_67 : FnOk P w K mg base CX0 1 _ fd67 ["self"] (spFn (CtOf K w CN CF) F_Row__words) := fn_ok (k := 0) D67 sc_Row__words rfl ⟨rfl, rfl⟩ k_Row__words rfl (by decide) (tab_ok T_Row__words) FL M_Row__words
  have bd_67 : Binds K fd67 ["self"] [] := D67.bindsN (fun _ _ _ _ _ _ us hl => match us, hl with | [_], _ => rfl)
  have mo_67 : MOk P w K mg base (CtOf K w CN CF) 1 6 "words" F_Row__words := me_ok (y := "SayRow") rfl (He.cls_ok (c.fact 34 (f := .cls "SayRow") rfl)) (He.meth_ok (c.fact 127 (f := .meth "SayRow" "words") rfl)) fn_67 bd_67 (by decide +kernel)
  have fn_68 : FnOk P w K mg base CX0 1 _ fd68 ["self"] (spFn (CtOf K w CN CF) F_Row__words) := fn_ok (k := 0) D68 sc_Row__words rfl ⟨rfl, rfl⟩ k_Row__words rfl (by decide) (tab_ok T_Row__words) FL M_Row__words
  have bd_68 : Binds K fd68 ["self"] [] := D68.bindsN (fun _ _ _ _ _ _ us hl => match us, hl with | [_], _ => rfl)
  have mo_68 : MOk P w K mg base (CtOf K w CN CF) 1 7 "words" F_Row__words := me_ok (y := "AskRow") rfl (He.cls_ok (c.fact 36 (f := .cls "AskRow") rfl)) (He.meth_ok (c.fact 128 (f := .meth "AskRow" "words") rfl)) fn_68 bd_68 (by decide +kernel)
  have fn_69 : FnOk P w K mg base CX0 1 _ fd69 ["self"] (spFn (CtOf K w CN CF) F_Row__words) := fn_ok (k := 0) D69 sc_Row__words rfl ⟨rfl, rfl⟩ k_Row__words rfl (by decide) (tab_ok T_Row__words) FL M_Row__words
  have bd_69 : Binds K fd69 ["self"] [] := D69.bindsN (fun _ _ _ _ _ _ us hl => match us, hl with | [_], _ => rfl)
  have mo_69 : MOk P w K mg base (CtOf K w CN CF) 1 8 "words" F_Row__words := me_ok (y := "AimRow") rfl (He.cls_ok (c.fact 38 (f := .cls "AimRow") rfl)) (He.meth_ok (c.fact 129 (f := .meth "AimRow" "words") rfl)) fn_69 bd_69 (by decide +kernel)
  have fn_70 : FnOk P w K mg base CX0 1 _ fd70 ["self"] (spFn (CtOf K w CN CF) F_Row__words) := fn_ok (k := 0) D70 sc_Row__words rfl ⟨rfl, rfl⟩ k_Row__words rfl (by decide) (tab_ok T_Row__words) FL M_Row__words
  have bd_70 : Binds K fd70 ["self"] [] := D70.bindsN (fun _ _ _ _ _ _ us hl => match us, hl with | [_], _ => rfl)
  have mo_70 : MOk P w K mg base (CtOf K w CN CF) 1 9 "words" F_Row__words := me_ok (y := "JumpRow") rfl (He.cls_ok (c.fact 40 (f := .cls "JumpRow") rfl)) (He.meth_ok (c.fact 130 (f := .meth "JumpRow" "words") rfl)) fn_70 bd_70 (by decide +kernel)
  have fn_71 : FnOk P w K mg base CX0 1 _ fd71 ["self"] (spFn (CtOf K w CN CF) F_Row__words) := fn_ok (k := 0) D71 sc_Row__words rfl ⟨rfl, rfl⟩ k_Row__words rfl (by decide) (tab_ok T_Row__words) FL M_Row__words
  have bd_71 : Binds K fd71 ["self"] [] := D71.bindsN (fun _ _ _ _ _ _ us hl => match us, hl with | [_], _ => rfl)
  have mo_71 : MOk P w K mg base (CtOf K w CN CF) 1 10 "words" F_Row__words := me_ok (y := "JumpIfRow") rfl (He.cls_ok (c.fact 42 (f := .cls "JumpIfRow") rfl)) (He.meth_ok (c.fact 131 (f := .meth "JumpIfRow" "words") rfl)) fn_71 bd_71 (by decide +kernel)
  have fn_72 : FnOk P w K mg base CX0 1 _ fd72 ["self"] (spFn (CtOf K w CN CF) F_Row__words) := fn_ok (k := 0) D72 sc_Row__words rfl ⟨rfl, rfl⟩ k_Row__words rfl (by decide) (tab_ok T_Row__words) FL M_Row__words
  have bd_72 : Binds K fd72 ["self"] [] := D72.bindsN (fun _ _ _ _ _ _ us hl => match us, hl with | [_], _ => rfl)
  have mo_72 : MOk P w K mg base (CtOf K w CN CF) 1 11 "words" F_Row__words := me_ok (y := "CallRow") rfl (He.cls_ok (c.fact 44 (f := .cls "CallRow") rfl)) (He.meth_ok (c.fact 132 (f := .meth "CallRow" "words") rfl)) fn_72 bd_72 (by decide +kernel)
  have fn_73 : FnOk P w K mg base CX0 1 _ fd73 ["self"] (spFn (CtOf K w CN CF) F_Row__words) := fn_ok (k := 0) D73 sc_Row__words rfl ⟨rfl, rfl⟩ k_Row__words rfl (by decide) (tab_ok T_Row__words) FL M_Row__words
  have bd_73 : Binds K fd73 ["self"] [] := D73.bindsN (fun _ _ _ _ _ _ us hl => match us, hl with | [_], _ => rfl)
  have mo_73 : MOk P w K mg base (CtOf K w CN CF) 1 12 "words" F_Row__words := me_ok (y := "LoadRow") rfl (He.cls_ok (c.fact 46 (f := .cls "LoadRow") rfl)) (He.meth_ok (c.fact 133 (f := .meth "LoadRow" "words") rfl)) fn_73 bd_73 (by decide +kernel)
  have fn_74 : FnOk P w K mg base CX0 1 _ fd74 ["self"] (spFn (CtOf K w CN CF) F_Row__words) := fn_ok (k := 0) D74 sc_Row__words rfl ⟨rfl, rfl⟩ k_Row__words rfl (by decide) (tab_ok T_Row__words) FL M_Row__words
  have bd_74 : Binds K fd74 ["self"] [] := D74.bindsN (fun _ _ _ _ _ _ us hl => match us, hl with | [_], _ => rfl)
  have mo_74 : MOk P w K mg base (CtOf K w CN CF) 1 13 "words" F_Row__words := me_ok (y := "JumpByRow") rfl (He.cls_ok (c.fact 48 (f := .cls "JumpByRow") rfl)) (He.meth_ok (c.fact 134 (f := .meth "JumpByRow" "words") rfl)) fn_74 bd_74 (by decide +kernel)
  have fn_75 : FnOk P w K mg base CX0 1 _ fd75 ["self"] (spFn (CtOf K w CN CF) F_Row__words) := fn_ok (k := 0) D75 sc_Row__words rfl ⟨rfl, rfl⟩ k_Row__words rfl (by decide) (tab_ok T_Row__words) FL M_Row__words
  have bd_75 : Binds K fd75 ["self"] [] := D75.bindsN (fun _ _ _ _ _ _ us hl => match us, hl with | [_], _ => rfl)
  have mo_75 : MOk P w K mg base (CtOf K w CN CF) 1 14 "words" F_Row__words := me_ok (y := "AlikeRow") rfl (He.cls_ok (c.fact 50 (f := .cls "AlikeRow") rfl)) (He.meth_ok (c.fact 135 (f := .meth "AlikeRow" "words") rfl)) fn_75 bd_75 (by decide +kernel)
  have fn_76 : FnOk P w K mg base CX0 1 _ fd76 ["self"] (spFn (CtOf K w CN CF) F_Row__words) := fn_ok (k := 0) D76 sc_Row__words rfl ⟨rfl, rfl⟩ k_Row__words rfl (by decide) (tab_ok T_Row__words) FL M_Row__words
  have bd_76 : Binds K fd76 ["self"] [] := D76.bindsN (fun _ _ _ _ _ _ us hl => match us, hl with | [_], _ => rfl)
  have mo_76 : MOk P w K mg base (CtOf K w CN CF) 1 15 "words" F_Row__words := me_ok (y := "BackRow") rfl (He.cls_ok (c.fact 52 (f := .cls "BackRow") rfl)) (He.meth_ok (c.fact 136 (f := .meth "BackRow" "words") rfl)) fn_76 bd_76 (by decide +kernel)
  have fn_77 : FnOk P w K mg base CX0 1 _ fd77 ["self"] (spFn (CtOf K w CN CF) F_Row__words) := fn_ok (k := 0) D77 sc_Row__words rfl ⟨rfl, rfl⟩ k_Row__words rfl (by decide) (tab_ok T_Row__words) FL M_Row__words
  have bd_77 : Binds K fd77 ["self"] [] := D77.bindsN (fun _ _ _ _ _ _ us hl => match us, hl with | [_], _ => rfl)
  have mo_77 : MOk P w K mg base (CtOf K w CN CF) 1 16 "words" F_Row__words := me_ok (y := "StopRow") rfl (He.cls_ok (c.fact 54 (f := .cls "StopRow") rfl)) (He.meth_ok (c.fact 137 (f := .meth "StopRow" "words") rfl)) fn_77 bd_77 (by decide +kernel)
  have T_DataRow__words : ∀ p ∈ t_DataRow__words, GOk P w K mg base (CtOf K w CN CF) 0 p.1 p.2 := by
    unfold t_DataRow__words
    simp only [List.forall_mem_cons, List.not_mem_nil, false_implies, implies_true, and_true]
    exact He.free_ok X G (c.fact 191 (f := .free "list") rfl)
  have M_DataRow__words : ∀ m io tb, msOf m_DataRow__words m = some (io, tb) → ∀ q f, tb q = some f → f.io = io ∧ MOk P w K mg base (CtOf K w CN CF) 0 q m f := by
    refine ms_ok ?_
    unfold m_DataRow__words
    intro e he; cases he
  have fn_78 : FnOk P w K mg base CX0 1 _ fd78 ["self"] (spFn (CtOf K w CN CF) F_DataRow__words) := fn_ok (k := 0) D78 sc_DataRow__words rfl ⟨rfl, rfl⟩ k_DataRow__words rfl (by decide) (tab_ok T_DataRow__words) FL M_DataRow__words
  have bd_78 : Binds K fd78 ["self"] [] := D78.bindsN (fun _ _ _ _ _ _ us hl => match us, hl with | [_], _ => rfl)
  have mo_78 : MOk P w K mg base (CtOf K w CN CF) 1 17 "words" F_DataRow__words := me_ok (y := "DataRow") rfl (He.cls_ok (c.fact 56 (f := .cls "DataRow") rfl)) (He.meth_ok (c.fact 138 (f := .meth "DataRow" "words") rfl)) fn_78 bd_78 (by decide +kernel)
  have fn_79 : FnOk P w K mg base CX0 1 _ fd79 ["self"] (spFn (CtOf K w CN CF) F_DataRow__words) := fn_ok (k := 0) D79 sc_DataRow__words rfl ⟨rfl, rfl⟩ k_DataRow__words rfl (by decide) (tab_ok T_DataRow__words) FL M_DataRow__words
  have bd_79 : Binds K fd79 ["self"] [] := D79.bindsN (fun _ _ _ _ _ _ us hl => match us, hl with | [_], _ => rfl)
  have mo_79 : MOk P w K mg base (CtOf K w CN CF) 1 18 "words" F_DataRow__words := me_ok (y := "NumbersRow") rfl (He.cls_ok (c.fact 58 (f := .cls "NumbersRow") rfl)) (He.meth_ok (c.fact 139 (f := .meth "NumbersRow" "words") rfl)) fn_79 bd_79 (by decide +kernel)
  have fn_80 : FnOk P w K mg base CX0 1 _ fd80 ["self"] (spFn (CtOf K w CN CF) F_DataRow__words) := fn_ok (k := 0) D80 sc_DataRow__words rfl ⟨rfl, rfl⟩ k_DataRow__words rfl (by decide) (tab_ok T_DataRow__words) FL M_DataRow__words
  have bd_80 : Binds K fd80 ["self"] [] := D80.bindsN (fun _ _ _ _ _ _ us hl => match us, hl with | [_], _ => rfl)
  have mo_80 : MOk P w K mg base (CtOf K w CN CF) 1 19 "words" F_DataRow__words := me_ok (y := "TableRow") rfl (He.cls_ok (c.fact 60 (f := .cls "TableRow") rfl)) (He.meth_ok (c.fact 140 (f := .meth "TableRow" "words") rfl)) fn_80 bd_80 (by decide +kernel)
  have T__law_tells : ∀ p ∈ t__law_tells, GOk P w K mg base (CtOf K w CN CF) 5 p.1 p.2 := by
    unfold t__law_tells
    simp only [List.forall_mem_cons, List.not_mem_nil, false_implies, implies_true, and_true]
    exact ⟨GOk.mono (by decide) g_lengths, GOk.mono (by decide) g__law_due_lengths, GOk.mono (by decide) g__law_due_names, He.free_ok X G (c.fact 184 (f := .free "isinstance") rfl), He.free_ok X G (c.fact 193 (f := .free "tuple") rfl), GOk.mono (by decide) g_asked_by, He.free_ok X G (c.fact 191 (f := .free "list") rfl), He.free_ok X G (c.fact 187 (f := .free "bool") rfl)⟩
  have M__law_tells : ∀ m io tb, msOf m__law_tells m = some (io, tb) → ∀ q f, tb q = some f → f.io = io ∧ MOk P w K mg base (CtOf K w CN CF) 5 q m f := by
    refine ms_ok ?_
    unfold m__law_tells
    simp only [mt_asked, mt_lengths, mt_words, mt_goes_on, List.forall_mem_cons, List.not_mem_nil, false_implies, implies_true, and_true]
    exact ⟨⟨⟨rfl, MOk.mono (by decide) mo_41⟩, ⟨rfl, MOk.mono (by decide) mo_42⟩, ⟨rfl, MOk.mono (by decide) mo_43⟩, ⟨rfl, MOk.mono (by decide) mo_44⟩, ⟨rfl, MOk.mono (by decide) mo_45⟩, ⟨rfl, MOk.mono (by decide) mo_46⟩, ⟨rfl, MOk.mono (by decide) mo_47⟩, ⟨rfl, MOk.mono (by decide) mo_48⟩, ⟨rfl, MOk.mono (by decide) mo_49⟩, ⟨rfl, MOk.mono (by decide) mo_50⟩, ⟨rfl, MOk.mono (by decide) mo_51⟩, ⟨rfl, MOk.mono (by decide) mo_52⟩, ⟨rfl, MOk.mono (by decide) mo_53⟩, ⟨rfl, MOk.mono (by decide) mo_54⟩, ⟨rfl, MOk.mono (by decide) mo_55⟩, ⟨rfl, MOk.mono (by decide) mo_56⟩, ⟨rfl, MOk.mono (by decide) mo_57⟩, ⟨rfl, MOk.mono (by decide) mo_58⟩, ⟨rfl, MOk.mono (by decide) mo_59⟩, ⟨rfl, MOk.mono (by decide) mo_60⟩⟩, ⟨⟨rfl, MOk.mono (by decide) mo_21⟩, ⟨rfl, MOk.mono (by decide) mo_22⟩, ⟨rfl, MOk.mono (by decide) mo_23⟩, ⟨rfl, MOk.mono (by decide) mo_24⟩, ⟨rfl, MOk.mono (by decide) mo_25⟩, ⟨rfl, MOk.mono (by decide) mo_26⟩, ⟨rfl, MOk.mono (by decide) mo_27⟩, ⟨rfl, MOk.mono (by decide) mo_28⟩, ⟨rfl, MOk.mono (by decide) mo_29⟩, ⟨rfl, MOk.mono (by decide) mo_30⟩, ⟨rfl, MOk.mono (by decide) mo_31⟩, ⟨rfl, MOk.mono (by decide) mo_32⟩, ⟨rfl, MOk.mono (by decide) mo_33⟩, ⟨rfl, MOk.mono (by decide) mo_34⟩, ⟨rfl, MOk.mono (by decide) mo_35⟩, ⟨rfl, MOk.mono (by decide) mo_36⟩, ⟨rfl, MOk.mono (by decide) mo_37⟩, ⟨rfl, MOk.mono (by decide) mo_38⟩, ⟨rfl, MOk.mono (by decide) mo_39⟩, ⟨rfl, MOk.mono (by decide) mo_40⟩⟩, ⟨⟨rfl, MOk.mono (by decide) mo_61⟩, ⟨rfl, MOk.mono (by decide) mo_62⟩, ⟨rfl, MOk.mono (by decide) mo_63⟩, ⟨rfl, MOk.mono (by decide) mo_64⟩, ⟨rfl, MOk.mono (by decide) mo_65⟩, ⟨rfl, MOk.mono (by decide) mo_66⟩, ⟨rfl, MOk.mono (by decide) mo_67⟩, ⟨rfl, MOk.mono (by decide) mo_68⟩, ⟨rfl, MOk.mono (by decide) mo_69⟩, ⟨rfl, MOk.mono (by decide) mo_70⟩, ⟨rfl, MOk.mono (by decide) mo_71⟩, ⟨rfl, MOk.mono (by decide) mo_72⟩, ⟨rfl, MOk.mono (by decide) mo_73⟩, ⟨rfl, MOk.mono (by decide) mo_74⟩, ⟨rfl, MOk.mono (by decide) mo_75⟩, ⟨rfl, MOk.mono (by decide) mo_76⟩, ⟨rfl, MOk.mono (by decide) mo_77⟩, ⟨rfl, MOk.mono (by decide) mo_78⟩, ⟨rfl, MOk.mono (by decide) mo_79⟩, ⟨rfl, MOk.mono (by decide) mo_80⟩⟩, ⟨⟨rfl, MOk.mono (by decide) mo_81⟩, ⟨rfl, MOk.mono (by decide) mo_82⟩, ⟨rfl, MOk.mono (by decide) mo_83⟩, ⟨rfl, MOk.mono (by decide) mo_84⟩, ⟨rfl, MOk.mono (by decide) mo_85⟩, ⟨rfl, MOk.mono (by decide) mo_86⟩, ⟨rfl, MOk.mono (by decide) mo_87⟩, ⟨rfl, MOk.mono (by decide) mo_88⟩, ⟨rfl, MOk.mono (by decide) mo_89⟩, ⟨rfl, MOk.mono (by decide) mo_90⟩, ⟨rfl, MOk.mono (by decide) mo_91⟩, ⟨rfl, MOk.mono (by decide) mo_92⟩, ⟨rfl, MOk.mono (by decide) mo_93⟩, ⟨rfl, MOk.mono (by decide) mo_94⟩, ⟨rfl, MOk.mono (by decide) mo_95⟩, ⟨rfl, MOk.mono (by decide) mo_96⟩, ⟨rfl, MOk.mono (by decide) mo_97⟩, ⟨rfl, MOk.mono (by decide) mo_98⟩, ⟨rfl, MOk.mono (by decide) mo_99⟩, ⟨rfl, MOk.mono (by decide) mo_100⟩⟩⟩
  have fn_18 : FnOk P w K mg base CX0 6 _ fd18 ["_law_row", "_law_told_here"] (spFn (CtOf K w CN CF) F__law_tells) := fn_ok (k := 5) D18 sc__law_tells rfl ⟨rfl, rfl⟩ k__law_tells rfl (by decide) (tab_ok T__law_tells) FL M__law_tells
  have bd_18 : Binds K fd18 ["_law_row", "_law_told_here"] [] := D18.bindsN (fun _ _ _ _ _ _ us hl => match us, hl with | [_, _], _ => rfl)
  have g__law_tells : GOk P w K mg base (CtOf K w CN CF) 6 "_law_tells" (.fn F__law_tells) := ⟨_, _, _, He.glo_ok X G (c.fact 18 (f := .glo "_law_tells") rfl), fn_18, D18.kp, bd_18⟩
  have T__law_right : ∀ p ∈ t__law_right, GOk P w K mg base (CtOf K w CN CF) 6 p.1 p.2 := by
    unfold t__law_right
    simp only [List.forall_mem_cons, List.not_mem_nil, false_implies, implies_true, and_true]
    exact ⟨GOk.mono (by decide) g__law_tells, GOk.mono (by decide) g__law_kinds, He.free_ok X G (c.fact 184 (f := .free "isinstance") rfl), cl_ok (fun _ z => by cases z) (io_ok rfl rfl (He.glo_ok X G (c.fact 21 (f := .glo "Row") rfl)) cx3), GOk.mono (by decide) g_row_of, He.free_ok X G (c.fact 191 (f := .free "list") rfl)⟩
  have M__law_right : ∀ m io tb, msOf m__law_right m = some (io, tb) → ∀ q f, tb q = some f → f.io = io ∧ MOk P w K mg base (CtOf K w CN CF) 6 q m f := by
    refine ms_ok ?_
    unfold m__law_right
    simp only [mt_words, List.forall_mem_cons, List.not_mem_nil, false_implies, implies_true, and_true]
    exact ⟨⟨rfl, MOk.mono (by decide) mo_61⟩, ⟨rfl, MOk.mono (by decide) mo_62⟩, ⟨rfl, MOk.mono (by decide) mo_63⟩, ⟨rfl, MOk.mono (by decide) mo_64⟩, ⟨rfl, MOk.mono (by decide) mo_65⟩, ⟨rfl, MOk.mono (by decide) mo_66⟩, ⟨rfl, MOk.mono (by decide) mo_67⟩, ⟨rfl, MOk.mono (by decide) mo_68⟩, ⟨rfl, MOk.mono (by decide) mo_69⟩, ⟨rfl, MOk.mono (by decide) mo_70⟩, ⟨rfl, MOk.mono (by decide) mo_71⟩, ⟨rfl, MOk.mono (by decide) mo_72⟩, ⟨rfl, MOk.mono (by decide) mo_73⟩, ⟨rfl, MOk.mono (by decide) mo_74⟩, ⟨rfl, MOk.mono (by decide) mo_75⟩, ⟨rfl, MOk.mono (by decide) mo_76⟩, ⟨rfl, MOk.mono (by decide) mo_77⟩, ⟨rfl, MOk.mono (by decide) mo_78⟩, ⟨rfl, MOk.mono (by decide) mo_79⟩, ⟨rfl, MOk.mono (by decide) mo_80⟩⟩
  have fn_19 : FnOk P w K mg base CX0 7 _ fd19 ["_law_told_here"] (spFn (CtOf K w CN CF) F__law_right) := fn_ok (k := 6) D19 sc__law_right rfl ⟨rfl, rfl⟩ k__law_right rfl (by decide) (tab_ok T__law_right) FL M__law_right
  have bd_19 : Binds K fd19 ["_law_told_here"] [] := D19.bindsN (fun _ _ _ _ _ _ us hl => match us, hl with | [_], _ => rfl)
  have g__law_right : GOk P w K mg base (CtOf K w CN CF) 7 "_law_right" (.fn F__law_right) := ⟨_, _, _, He.glo_ok X G (c.fact 19 (f := .glo "_law_right") rfl), fn_19, D19.kp, bd_19⟩
  have T_law : ∀ p ∈ t_law, GOk P w K mg base (CtOf K w CN CF) 7 p.1 p.2 := by
    unfold t_law
    simp only [List.forall_mem_cons, List.not_mem_nil, false_implies, implies_true, and_true]
    exact ⟨GOk.mono (by decide) g__law_right, He.free_ok X G (c.fact 194 (f := .free "range") rfl), GOk.mono (by decide) g__law_told, GOk.mono (by decide) g__law_draws⟩
  have M_law : ∀ m io tb, msOf m_law m = some (io, tb) → ∀ q f, tb q = some f → f.io = io ∧ MOk P w K mg base (CtOf K w CN CF) 7 q m f := by
    refine ms_ok ?_
    unfold m_law
    intro e he; cases he
  exact fn_ok (k := 7) D20 sc_law rfl ⟨rfl, rfl⟩ k_law rfl (by decide) (tab_ok T_law) FL M_law
end FL

namespace FL
open PySem L2 FJ
theorem big : 100000 ≤ sizeLine := by decide +kernel
theorem run_eq {n : Nat} {io : List Bool} {b : S} {ts : List T} {t : T} {rp : FJ.Env} (hl : ts.length = io.length) (h : WP (evS b (ts.map some ++ List.replicate (n - io.length) none)) (fun r => T.fr .non = t ∧ r.take io.length = rp) (fun _ => False) (fun _ => False) fun t' r => t' = t ∧ r.take io.length = rp) : (mkFn n io b).run ts = some (t, rp) := by
  obtain ⟨t', rp', g1, rfl, rfl⟩ := run_by (Q := fun t' rp' => t' = t ∧ rp' = rp) hl h
  exact g1
def abc : Str := "abcdefghijklmnopqrstuvwxyz"
def sm (c : Nat) : Bool := decide (c ∈ abc.cps.toList)
def isW (z : Str) : Bool := decide (1 ≤ z.length) && decide (z.length ≤ 8) && z.cps.toList.all sm
theorem mem_abc (c : Nat) : decide (c ∈ Str.cps "abcdefghijklmnopqrstuvwxyz") = sm c := by simp [sm, abc]
theorem isw_str (z : Str) (hz : z.length ≤ sizeLine) : F_is_word.run [.fr (.str z)] = some (.fr (.bl (isW z)), [some (.fr (.str z))]) := by
  have hl : z.cps.toList.length = z.length := by simp [Str.length]
  have hc : compL (fun r => evc .no r) (fun r => ev (.cmp .inn (.var 1) (.cst (.str "abcdefghijklmnopqrstuvwxyz"))) r) (.name 1) (z.cps.toList.map fun c => .str ⟨#[c]⟩) [some (.fr (.str z)), none] [] =
      .ok (z.cps.toList.map fun c => .bl (sm c)) [some (.fr (.str z)), none] := by
    rw [compL_map (g := fun d => match d with | .str z => .bl (z.cps.toList.all sm) | _ => .non) rfl]
    · simp [List.map_map]
    · intro d hd; simp
    · intro d hd
      obtain ⟨c, _, rfl⟩ := List.mem_map.mp hd
      simp [cmpD, mem_abc]
    · simp; exact hz
  have hb : blsOf (z.cps.toList.map fun c => .bl (sm c)) = some (z.cps.toList.map sm) := by
    generalize z.cps.toList = l
    induction l with
    | nil => rfl
    | cons c l ih => simp [blsOf, ih]
  obtain ⟨t, rp, h1, h2, h3⟩ := run_by (n := 2) (io := [false]) (b := b_is_word) (ts := [.fr (.str z)]) (Q := fun t rp => t = .fr (.bl (isW z)) ∧ rp = [some (.fr (.str z))]) rfl (by
    by_cases h8 : 1 ≤ z.length ∧ z.length ≤ 8
    · obtain ⟨h8, h9⟩ := h8
      have g1 : (1 : Int) ≤ (z.length : Int) := by omega
      have g2 : (z.length : Int) ≤ 8 := by omega
      have hcc : ev (.comp (.cmp .inn (.var 1) (.cst (.str "abcdefghijklmnopqrstuvwxyz"))) (.name 1) (.lst (.var 0)) .no) [some (.fr (.str z)), none] = .ok (.v (.ow (.lst (z.cps.toList.map fun c => .bl (sm c))))) [some (.fr (.str z)), none] :=
        (ev_comp (hid := none) (r0 := [some (.fr (.str z)), none]) (by simp [evi, seqD]) rfl hc)
      have w : isW z = z.cps.toList.all sm := by simp [isW, h8, h9]
      simp [b_is_word, isD, cmpD, biD, hz, g1, g2, hcc, hb, w]
    · have g : (decide ((1 : Int) ≤ (z.length : Int)) && decide ((z.length : Int) ≤ 8)) = false := by
        rw [Bool.and_eq_false_iff, decide_eq_false_iff_not, decide_eq_false_iff_not]
        omega
      have w : isW z = false := by
        unfold isW
        have : (decide (1 ≤ z.length) && decide (z.length ≤ 8)) = false := by
          rw [Bool.and_eq_false_iff, decide_eq_false_iff_not, decide_eq_false_iff_not]
          omega
        rw [this]; rfl
      simp [b_is_word, isD, cmpD, biD, hz, g, w])
  rw [← h2, ← h3]; exact h1
theorem isw_no (d : D) (h : isD .str d = some false) : F_is_word.run [.fr d] = some (.fr (.bl false), [some (.fr d)]) := by
  obtain ⟨t, rp, h1, h2, h3⟩ := run_by (n := 2) (io := [false]) (b := b_is_word) (ts := [.fr d]) (Q := fun t rp => t = .fr (.bl false) ∧ rp = [some (.fr d)]) rfl (by
    simp [b_is_word, h])
  rw [← h2, ← h3]; exact h1

def G0 : D → Prop
  | .obj _ _ => False | .tab _ _ _ => False | .scr _ => False | .str z => z.length ≤ 100 | _ => True
def isWord : D → Bool
  | .str z => isW z
  | _ => false
def isBox : D → Bool
  | .int i => decide (0 ≤ i) && decide (i < 4)
  | _ => false
def isPlain : D → Bool
  | .int i => decide (-2147483648 ≤ i) && decide (i ≤ 2147483647)
  | _ => false
def isBool : D → Bool
  | .bl _ => true
  | _ => false
theorem word_run (d : D) (h : G0 d) : F_is_word.run [.fr d] = some (.fr (.bl (isWord d)), [some (.fr d)]) := by
  cases d with
  | str z => exact isw_str z (Nat.le_trans h (Nat.le_trans (by decide) big))
  | obj _ _ => exact False.elim h
  | tab _ _ _ => exact False.elim h
  | scr _ => exact False.elim h
  | _ => exact isw_no _ rfl
theorem box_run (d : D) (h : G0 d) : F_is_box.run [.fr d] = some (.fr (.bl (isBox d)), [some (.fr d)]) := by
  refine run_eq rfl ?_
  cases d <;> first | exact False.elim h | simp [b_is_box, isD, cmpD, E.pu, isBox]
theorem plain_run (d : D) (h : G0 d) : F_is_plain.run [.fr d] = some (.fr (.bl (isPlain d)), [some (.fr d)]) := by
  refine run_eq rfl ?_
  cases d <;> first | exact False.elim h | simp [b_is_plain, isD, cmpD, E.pu, isPlain]
end FL
namespace FL
open PySem L2 FJ
theorem set_self {r : FJ.Env} {i : Nat} {o : Option T} (h : r[i]? = some o) : (r.set i none).set i o = r := by
  rw [List.set_set]
  apply List.ext_getElem?
  intro j
  rw [List.getElem?_set]
  split
  · rename_i e
    subst e
    have := ltOf h
    rw [List.getElem?_eq_getElem this] at h
    simp [this, Option.some.inj h]
  · rfl
theorem all_comp {f : Fn} {p : D → Bool} {i : Nat} {it : FJ.It} {r r0 : FJ.Env} {o : Option T} {ds : List D} (hf : ∀ d ∈ ds, f.run [.fr d] = some (.fr (.bl (p d)), [some (.fr d)])) (hio : f.io = [false])
    (hi : evi it r0 = .ok ds none r) (ho : r[i]? = some o) (hs : o = none ∨ ∃ d, o = some (.fr d)) (hl : ds.length ≤ 100) : ev (.comp (.call f (.ci (.var i) .nil)) (.name i) it .no) r0 = .ok (.v (.ow (.lst (ds.map fun d => .bl (p d))))) r := by
  have lt := ltOf ho
  have big := big
  have hst : stillE (hideE none r) (Tg.slots (.name i)) = true := by
    rcases hs with rfl | ⟨d, rfl⟩ <;> simp [stillE, hideE, Tg.slots, ho]
  have hc := compL_map (cf := fun r => evc .no r) (ef := fun r => ev (.call f (.ci (.var i) .nil)) r) (i := i) (r := r.set i none) (g := fun d => .bl (p d)) (ds := ds) (acc := []) (by rw [List.set_set]) (by intro d hd; simp) (by
    intro d hd
    simp [lt, hf d hd, hio]) (by simp; omega)
  rw [ev_comp hi hst (by simpa [hideE, wipeE, Tg.slots] using hc)]
  have : showE none (backE (hideE none r) (Tg.slots (.name i)) (r.set i none)) = r := by
    simp only [showE, hideE, Tg.slots, backE, ho]
    exact set_self ho
  rw [this]
theorem all_bls {p : D → Bool} (ds : List D) : biD .all [.lst (ds.map fun d => .bl (p d))] = some (.fr (.bl (ds.all p))) := by
  have : blsOf (ds.map fun d => .bl (p d)) = some (ds.map p) := by
    induction ds with
    | nil => rfl
    | cons d ds ih => simp [blsOf, ih]
  simp [biD, this]
end FL
namespace FL
open PySem L2 FJ
theorem idx0 (d : D) (ps : List D) : idxD (.tup (d :: ps)) (.int 0) = some d := by
  simp [idxD, at_, atI, ixN]
def isStr : D → Bool
  | .str _ => true
  | _ => false
def isTup : D → Bool
  | .tup _ => true
  | _ => false
theorem eqD_tnil (xs : List D) : eqD (.tup xs) (.tup []) = some xs.isEmpty := by
  cases xs <;> simp [eqD, cmpble, cmpbles, D.py, D.pys, PyData.eqv, PyData.eqvAll]
def G1 (d : D) : Prop := G0 d ∧ ∀ ds, d = .lst ds → ds.length ≤ 100 ∧ ∀ e ∈ ds, G0 e
theorem ofS_inj {a b : String} : (Str.ofString a = Str.ofString b) = (a = b) := by
  apply propext
  constructor
  · intro h
    rw [PySem.Str.ofString_eq_toList, PySem.Str.ofString_eq_toList] at h
    have h1 : (a.toList.map Char.toNat) = (b.toList.map Char.toNat) := by
      have := congrArg (fun z : Str => z.cps.toList) h
      simpa using this
    have h2 : a.toList = b.toList := by
      have inj : ∀ x y : Char, x.toNat = y.toNat → x = y := fun x y e => Char.ext (UInt32.toNat_inj.mp e)
      exact (List.map_inj_right (fun x y e => inj x y e)).mp h1
    exact String.toList_inj.mp h2
  · rintro rfl; rfl
theorem ofS_beq {a b : String} : (Str.ofString a == Str.ofString b) = (a == b) := by
  rw [Bool.eq_iff_iff, beq_iff_eq, beq_iff_eq, ofS_inj]
theorem flt (c : Nat) (h : c < 20) : flT "told" c = some 0 := by
  have : ∀ c : Fin 20, flT "told" c.val = some 0 := by decide +kernel
  exact this ⟨c, h⟩
theorem init_run (c : Nat) (h : c < 20) (d : D) : F_Row____init__.run [.ow (.obj c []), .fr d] = some (.fr .non, [some (.ow (.obj c [d])), some (.fr d)]) := by
  refine run_eq rfl ?_
  have := flt c h
  simp [b_Row____init__, evS_setf, this]
theorem idx_last (d : D) (ps : List D) : idxD (.tup (d :: ps)) (.int (-1)) = some ((d :: ps).getLast (by simp)) := by
  show atI (d :: ps) (-1) = _
  unfold atI ixN
  rw [if_neg (by decide), if_pos (by simp; omega), List.getLast_eq_getElem]
  simp
  rw [show (-1 + ((ps.length : Int) + 1)).toNat = ps.length by omega]
  exact List.getElem?_eq_getElem _
theorem cut_mid (d : D) (ps : List D) : cut (d :: ps) (some 1) (some (-1)) = ps.dropLast := by
  unfold cut
  rw [show (1 : Int) = ((1 : Nat) : Int) from rfl, HT.sIx_nat]
  have e : HT.sIx (d :: ps).length (d :: ps).length (some (-((1 : Nat) : Int))) = ps.length := by
    simp only [HT.sIx]
    rw [if_pos (by decide)]
    simp; omega
  rw [e, List.dropLast_eq_take]
  simp
theorem aim_cond (k : Str) (ps : List D) (hk : k.length ≤ 100) (hp : ∀ d ∈ ps, G1 d) (hl : ps.length ≤ 50) : ev (.or (.not (.call F_is_word (.ci (.idx (.var 0) (.neg (.cst (.int 1)))) .nil))) (.not (.bi .all (.cons (.comp (.call F_is_box (.ci (.var 1) .nil)) (.name 1) (.lst (.sli (.var 0) (.so (.cst (.int 1))) (.so (.neg (.cst (.int 1)))))) .no) .nil)))) [some (.fr (.tup (.str k :: ps))), none] =
    .ok (.v (.fr (.bl (!(isWord ((D.str k :: ps).getLast (by simp)) && ps.dropLast.all isBox))))) [some (.fr (.tup (.str k :: ps))), none] := by
  have i1 := idx_last (.str k) ps
  have g : G0 ((D.str k :: ps).getLast (by simp)) := by
    rcases List.mem_cons.mp (List.getLast_mem (l := D.str k :: ps) (by simp)) with h | h
    · rw [h]; exact hk
    · exact (hp _ h).1
  have e1 := word_run _ g
  have sl : sliD (.tup (.str k :: ps)) (some 1) (some (-1)) = some (.fr (.tup ps.dropLast)) := by simp only [sliD, cut_mid]
  have hc := all_comp (f := F_is_box) (p := isBox) (i := 1) (it := .lst (.sli (.var 0) (.so (.cst (.int 1))) (.so (.neg (.cst (.int 1)))))) (r := [some (.fr (.tup (.str k :: ps))), none]) (r0 := [some (.fr (.tup (.str k :: ps))), none]) (ds := ps.dropLast) (fun e he => box_run e (hp e ((List.dropLast_sublist ps).subset he)).1) rfl (by simp [evi, Oe.pu, E.pu, sl, seqD]) rfl (.inl rfl) (by rw [List.length_dropLast]; omega)
  have ha := all_bls (p := isBox) ps.dropLast
  generalize ps.dropLast = ms at hc ha ⊢
  cases hw : isWord ((D.str k :: ps).getLast (by simp)) <;> simp [E.pu, Es.pu, Ar.pu, i1, e1, hw, hc, ha]
def O (c : Nat) (d : D) : T := .ow (.obj c [d])
theorem ifT {b : Bool} {x y : T} : (if b = true then x else y) = match b with | true => x | false => y := by cases b <;> rfl
theorem eqD_one (k s : Str) (ps : List D) : eqD (.tup (.str k :: ps)) (.tup [.str s]) = some ((k == s) && ps.isEmpty) := by
  cases ps with
  | nil => simp [eqD, cmpble, cmpbles, D.plain, D.py, D.pys, PyData.eqv, PyData.eqvAll]
  | cons x r => simp [eqD, cmpble, cmpbles, D.plain, D.py, D.pys, PyData.eqv, PyData.eqvAll]
theorem len_tup (xs : List D) : biD .len [.tup xs] = some (.fr (.int xs.length)) := rfl
def boxesR (k : Str) (ps : List D) : T := match ps with
  | [x, y] => if isBox x && isBox y then (if k == "add" then O 4 (.tup (.str k :: ps)) else if k == "take" then O 5 (.tup (.str k :: ps)) else .fr .non) else .fr .non
  | [x] => if isBox x then (if k == "say" then O 6 (.tup (.str k :: ps)) else if k == "ask" then O 7 (.tup (.str k :: ps)) else .fr .non) else .fr .non
  | [] => if k == "back" then O 15 (.tup (.str k :: ps)) else if k == "stop" then O 16 (.tup (.str k :: ps)) else .fr .non
  | _ => .fr .non
theorem boxes_run (k : Str) (ps : List D) (hp : ∀ d ∈ ps, G1 d) : F_with_boxes.run [.fr (.tup (.str k :: ps))] = some (boxesR k ps, [some (.fr (.tup (.str k :: ps)))]) := by
  have big := big
  have l1 : 1 ≤ sizeLine := by omega
  refine run_eq rfl ?_
  match ps, hp with
  | [], _ => cases h1 : (k == Str.ofString "back") <;> cases h2 : (k == Str.ofString "stop") <;> simp [b_with_boxes, boxesR, E.pu, Es.pu, Ar.pu, Oe.pu, It.pu, cmpD, eqD_one, init_run, O, l1, frz, len_tup, idxD, at_, atI, ixN, h1, h2]
  | [x], hp =>
    have ex := box_run x (hp x (by simp)).1
    cases hx : isBox x
    · simp [b_with_boxes, boxesR, E.pu, Es.pu, Ar.pu, Oe.pu, It.pu, cmpD, eqD_one, init_run, O, l1, frz, len_tup, idxD, at_, atI, ixN, ex, hx]
    · cases h1 : (k == Str.ofString "say") <;> cases h2 : (k == Str.ofString "ask") <;> simp [b_with_boxes, boxesR, E.pu, Es.pu, Ar.pu, Oe.pu, It.pu, cmpD, eqD_one, init_run, O, l1, frz, len_tup, idxD, at_, atI, ixN, ex, hx, h1, h2]
  | [x, y], hp =>
    have ex := box_run x (hp x (by simp)).1
    have ey := box_run y (hp y (by simp)).1
    cases hx : isBox x
    · simp [b_with_boxes, boxesR, E.pu, Es.pu, Ar.pu, Oe.pu, It.pu, cmpD, eqD_one, init_run, O, l1, frz, len_tup, idxD, at_, atI, ixN, ex, hx]
    · cases hy : isBox y
      · simp [b_with_boxes, boxesR, E.pu, Es.pu, Ar.pu, Oe.pu, It.pu, cmpD, eqD_one, init_run, O, l1, frz, len_tup, idxD, at_, atI, ixN, ex, hx, ey, hy]
      · cases h1 : (k == Str.ofString "add") <;> cases h2 : (k == Str.ofString "take") <;> simp [b_with_boxes, boxesR, E.pu, Es.pu, Ar.pu, Oe.pu, It.pu, cmpD, eqD_one, init_run, O, l1, frz, len_tup, idxD, at_, atI, ixN, ex, hx, ey, hy, h1, h2]
  | x :: y :: z :: r, hp =>
    obtain ⟨m, hm⟩ : ∃ m : Int, m = r.length + 4 := ⟨_, rfl⟩
    have ln : biD .len [.tup (.str k :: x :: y :: z :: r)] = some (.fr (.int m)) := by rw [hm]; simp [biD]; omega
    have n1 : ¬ (m = 3) := by omega
    have n2 : ¬ (m = 2) := by omega
    simp [b_with_boxes, boxesR, E.pu, Es.pu, cmpD, eqD_one, ln, n1, n2, l1]
theorem cmpbles_refl (n : Nat) (h : ∀ d, D.plain n d = true → cmpble n d d = true) : ∀ xs, D.plains n xs = true → cmpbles n xs xs = true
  | [], _ => by simp [cmpbles]
  | x :: xs, hp => by
    simp only [D.plains, Bool.and_eq_true] at hp
    simp [cmpbles, h x hp.1, cmpbles_refl n h xs hp.2]
theorem cmpble_refl : ∀ (n : Nat) (d : D), D.plain n d = true → cmpble n d d = true
  | 0, d, h => by cases d <;> simp [cmpble, h]
  | n + 1, d, h => by
    cases d with
    | tup xs =>
      simp only [D.plain] at h
      simp only [cmpble]
      exact cmpbles_refl n (cmpble_refl n) xs h
    | lst xs =>
      simp only [D.plain] at h
      simp only [cmpble, cmpbles_refl n (cmpble_refl n) xs h, Bool.or_true]
    | _ => simp [cmpble, h]
theorem eqD_refl (d : D) (h : D.plain 60 d = true) : eqD d d = some true := by
  simp [eqD, cmpble_refl 60 d h, eqv_self 60 d h]
theorem plains_all (n : Nat) : ∀ ds : List D, (∀ d ∈ ds, D.plain n d = true) → D.plains n ds = true
  | [], _ => by simp [D.plains]
  | d :: ds, h => by simp [D.plains, h d (List.mem_cons_self ..), plains_all n ds fun e he => h e (List.mem_cons_of_mem _ he)]
end FL
namespace FL
open PySem L2 FJ
@[simp] theorem useE_bnt {p : Bool} {i : Nat} {ts : List T} {r : FJ.Env} : useE p (.b i (.nt ts)) r = frz i r := by simp [useE, T.soft]
theorem isb {d : D} (h : G0 d) : isD .bool d = some (isBool d) := by
  cases d <;> first | exact False.elim h | rfl
theorem plain_int {d : D} (h : isPlain d = true) (n : Nat) : D.plain n d = true := by cases d <;> first | rfl | (cases n <;> rfl) | cases h
theorem plain_box {d : D} (h : isBox d = true) (n : Nat) : D.plain n d = true := by cases d <;> first | rfl | (cases n <;> rfl) | cases h
theorem plain_word {d : D} (h : isWord d = true) (n : Nat) : D.plain n d = true := by cases d <;> first | rfl | (cases n <;> rfl) | cases h
theorem plain_bool {d : D} (h : isBool d = true) (n : Nat) : D.plain n d = true := by cases d <;> first | rfl | (cases n <;> rfl) | cases h
/-- a row's object and what its methods tell -/
structure Kd (told : D) (c : Nat) (names lens : List D) (go : Bool) : Prop where
  few : c < 20
  pl : D.plain 59 told = true
  pn : D.plain 59 (.lst names) = true
  po : D.plain 59 (.tup lens) = true
  g : ∃ F, mt_goes_on.lookup c = some F ∧ F.io = [false] ∧ F.run [.fr (.obj c [told])] = some (.fr (.bl go), [some (.fr (.obj c [told]))])
  w : ∃ F t, mt_words.lookup c = some F ∧ F.io = [false] ∧ F.run [.fr (.obj c [told])] = some (t, [some (.fr (.obj c [told]))]) ∧ t.toD = told
  a : ∃ F, mt_asked.lookup c = some F ∧ F.io = [false] ∧ F.run [.fr (.obj c [told])] = some (.ow (.lst names), [some (.fr (.obj c [told]))])
  l : ∃ F, mt_lengths.lookup c = some F ∧ F.io = [false] ∧ F.run [.fr (.obj c [told])] = some (.fr (.tup lens), [some (.fr (.obj c [told]))])
  row : F_row_of.run [.fr told] = some (.ow (.obj c [told]), [some (.fr told)])
  dn : F__law_due_names.run [.fr told] = some (.ow (.lst names), [some (.fr told)])
  dl : F__law_due_lengths.run [.fr told] = some (.fr (.tup lens), [some (.fr told)])
section
variable {c : Nat} (h : c < 20) (told : D)
include h
theorem go_Row : F_Row__goes_on.run [.fr (.obj c [told])] = some (.fr (.bl false), [some (.fr (.obj c [told]))]) := run_eq rfl (by simp [b_Row__goes_on])
theorem go_CodeRow : F_CodeRow__goes_on.run [.fr (.obj c [told])] = some (.fr (.bl true), [some (.fr (.obj c [told]))]) := run_eq rfl (by simp [b_CodeRow__goes_on])
theorem go_JumpRow : F_JumpRow__goes_on.run [.fr (.obj c [told])] = some (.fr (.bl false), [some (.fr (.obj c [told]))]) := run_eq rfl (by simp [b_JumpRow__goes_on])
theorem go_JumpByRow : F_JumpByRow__goes_on.run [.fr (.obj c [told])] = some (.fr (.bl false), [some (.fr (.obj c [told]))]) := run_eq rfl (by simp [b_JumpByRow__goes_on])
theorem go_BackRow : F_BackRow__goes_on.run [.fr (.obj c [told])] = some (.fr (.bl false), [some (.fr (.obj c [told]))]) := run_eq rfl (by simp [b_BackRow__goes_on])
theorem go_StopRow : F_StopRow__goes_on.run [.fr (.obj c [told])] = some (.fr (.bl false), [some (.fr (.obj c [told]))]) := run_eq rfl (by simp [b_StopRow__goes_on])
theorem wo_Row : F_Row__words.run [.fr (.obj c [told])] = some (.fr told, [some (.fr (.obj c [told]))]) := by
  have := flt c h
  exact run_eq rfl (by simp [b_Row__words, fldD, this])
theorem wo_Data (k : Str) (ds : List D) : F_DataRow__words.run [.fr (.obj c [.tup [.str k, .lst ds]])] = some (.nt [.fr (.str k), .ow (.lst ds)], [some (.fr (.obj c [.tup [.str k, .lst ds]]))]) := by
  have := flt c h
  have big := big
  have l2 : 2 ≤ sizeLine := by omega
  exact run_eq rfl (by simp [b_DataRow__words, fldD, this, E.pu, Es.pu, idxD, at_, atI, ixN, biD, l2])
theorem as_Row : F_Row__asked.run [.fr (.obj c [told])] = some (.ow (.lst []), [some (.fr (.obj c [told]))]) := by
  have big := big
  have l0 : (0 : Nat) ≤ sizeLine := by omega
  exact run_eq rfl (by simp [b_Row__asked, l0])
theorem as_Aim (k : D) (ps : List D) : F_AimRow__asked.run [.fr (.obj c [.tup (k :: ps)])] = some (.ow (.lst [(k :: ps).getLast (by simp)]), [some (.fr (.obj c [.tup (k :: ps)]))]) := by
  have := flt c h
  have big := big
  have l1 : 1 ≤ sizeLine := by omega
  have i1 := idx_last k ps
  exact run_eq rfl (by simp [b_AimRow__asked, fldD, this, E.pu, Es.pu, i1, l1])
theorem as_Alike (a b x y : D) : F_AlikeRow__asked.run [.fr (.obj c [.tup [a, b, x, y]])] = some (.ow (.lst [x, y]), [some (.fr (.obj c [.tup [a, b, x, y]]))]) := by
  have := flt c h
  have sl : sliD (.tup [a, b, x, y]) (some 2) none = some (.fr (.tup [x, y])) := rfl
  exact run_eq rfl (by simp [b_AlikeRow__asked, fldD, this, E.pu, Es.pu, Oe.pu, sl, biD])
theorem as_Table (k : D) (ds : List D) : F_TableRow__asked.run [.fr (.obj c [.tup [k, .lst ds]])] = some (.ow (.lst ds), [some (.fr (.obj c [.tup [k, .lst ds]]))]) := by
  have := flt c h
  exact run_eq rfl (by simp [b_TableRow__asked, fldD, this, E.pu, Es.pu, idxD, at_, atI, ixN, biD])
theorem le_Row : F_Row__lengths.run [.fr (.obj c [told])] = some (.fr (.tup [.int 0]), [some (.fr (.obj c [told]))]) := by
  have big := big
  have l1 : 1 ≤ sizeLine := by omega
  exact run_eq rfl (by simp [b_Row__lengths, l1])
theorem le_Code : F_CodeRow__lengths.run [.fr (.obj c [told])] = some (.fr (.tup [.int 1]), [some (.fr (.obj c [told]))]) := by
  have big := big
  have l1 : 1 ≤ sizeLine := by omega
  exact run_eq rfl (by simp [b_CodeRow__lengths, l1])
theorem le_Set : F_SetRow__lengths.run [.fr (.obj c [told])] = some (.fr (.tup [.int 5]), [some (.fr (.obj c [told]))]) := by
  have big := big
  have l1 : 1 ≤ sizeLine := by omega
  exact run_eq rfl (by simp [b_SetRow__lengths, l1])
theorem le_Aim : F_AimRow__lengths.run [.fr (.obj c [told])] = some (.fr (.tup [.int 2, .int 3]), [some (.fr (.obj c [told]))]) := by
  have big := big
  have l1 : 2 ≤ sizeLine := by omega
  exact run_eq rfl (by simp [b_AimRow__lengths, l1])
theorem le_Alike : F_AlikeRow__lengths.run [.fr (.obj c [told])] = some (.fr (.tup [.int 5]), [some (.fr (.obj c [told]))]) := by
  have big := big
  have l1 : 1 ≤ sizeLine := by omega
  exact run_eq rfl (by simp [b_AlikeRow__lengths, l1])
theorem le_Numbers (k : D) (ds : List D) {m : Int} (hm : m = ds.length) : F_NumbersRow__lengths.run [.fr (.obj c [.tup [k, .lst ds]])] = some (.fr (.tup [.int (2 + 4 * m)]), [some (.fr (.obj c [.tup [k, .lst ds]]))]) := by
  have := flt c h
  have big := big
  have l1 : 1 ≤ sizeLine := by omega
  have ln : biD .len [.lst ds] = some (.fr (.int m)) := by rw [hm]; rfl
  exact run_eq rfl (by simp [b_NumbersRow__lengths, fldD, this, E.pu, Es.pu, idxD, at_, atI, ixN, ln, binD, mulOk, l1])
theorem le_Table (k : D) (ds : List D) {m : Int} (hm : m = ds.length) : F_TableRow__lengths.run [.fr (.obj c [.tup [k, .lst ds]])] = some (.fr (.tup [.int (2 + 2 * m)]), [some (.fr (.obj c [.tup [k, .lst ds]]))]) := by
  have := flt c h
  have big := big
  have l1 : 1 ≤ sizeLine := by omega
  have ln : biD .len [.lst ds] = some (.fr (.int m)) := by rw [hm]; rfl
  exact run_eq rfl (by simp [b_TableRow__lengths, fldD, this, E.pu, Es.pu, idxD, at_, atI, ixN, ln, binD, mulOk, l1])
end
theorem kd_mark {w : D} (gw : G0 w) (hw : isWord w = true) {t : D} (gt : G0 t) (ht : isBool t = true) : Kd (.tup [.str "mark", w, t]) 1 [] [.int 0] false := by
  have big := big
  have l0 : (0 : Nat) ≤ sizeLine := by omega
  have l1 : 1 ≤ sizeLine := by omega
  have l2 : 2 ≤ sizeLine := by omega
  have l3 : 3 ≤ sizeLine := by omega
  have l5 : 5 ≤ sizeLine := by omega
  have l9 : 9 ≤ sizeLine := by omega
  have ew := word_run w gw
  rw [hw] at ew
  have et := isb gt
  rw [ht] at et
  have row : F_row_of.run [.fr (.tup [.str "mark", w, t])] = some (.ow (.obj 1 [(.tup [.str "mark", w, t])]), [some (.fr (.tup [.str "mark", w, t]))]) := run_eq rfl (by
    have it : isD .tuple (.tup [.str "mark", w, t]) = some true := rfl
    have is : isD .str (.str "mark") = some true := rfl
    simp [b_row_of, E.pu, Es.pu, Ar.pu, Oe.pu, It.pu, cmpD, ofS_beq, ofS_inj, eqD_tnil, eqD_one, inD, D.plain, D.plains, D.py, PyData.eqv, isTup, isStr, init_run, O, l0, l1, l2, l5, frz, idxD, at_, atI, ixN, len_tup, atomD, it, is, ew, et])
  have dn : F__law_due_names.run [.fr (.tup [.str "mark", w, t])] = some (.ow (.lst []), [some (.fr (.tup [.str "mark", w, t]))]) := run_eq rfl (by
    simp [b__law_due_names, E.pu, Es.pu, Ar.pu, Oe.pu, It.pu, cmpD, ofS_beq, ofS_inj, eqD_tnil, eqD_one, inD, D.plain, D.plains, D.py, PyData.eqv, isTup, isStr, init_run, O, l0, l1, l2, l5, frz, idxD, at_, atI, ixN, len_tup, atomD, biD])
  have dl : F__law_due_lengths.run [.fr (.tup [.str "mark", w, t])] = some (.fr (.tup [.int 0]), [some (.fr (.tup [.str "mark", w, t]))]) := run_eq rfl (by
    simp [b__law_due_lengths, E.pu, Es.pu, Ar.pu, Oe.pu, It.pu, cmpD, ofS_beq, ofS_inj, eqD_tnil, eqD_one, inD, D.plain, D.plains, D.py, PyData.eqv, isTup, isStr, init_run, O, l0, l1, l2, l5, frz, idxD, at_, atI, ixN, len_tup, atomD])
  refine ⟨by decide, ?_, ?_, by decide +kernel, ⟨_, rfl, rfl, go_Row (by decide) _⟩, ⟨_, _, rfl, rfl, wo_Row (by decide) _, by simp⟩, ⟨_, rfl, rfl, as_Row (by decide) _⟩, ⟨_, rfl, rfl, le_Row (by decide) _⟩, row, dn, dl⟩
  · show D.plains 58 [.str "mark", w, t] = true
    simp [D.plains, D.plain, plain_word hw 58, plain_bool ht 58]
  · show D.plains 58 [] = true
    simp [D.plains]
theorem kd_set {b : D} (gb : G0 b) (hb : isBox b = true) {n : D} (gn : G0 n) (hn : isPlain n = true) : Kd (.tup [.str "set", b, n]) 3 [] [.int 5] true := by
  have big := big
  have l0 : (0 : Nat) ≤ sizeLine := by omega
  have l1 : 1 ≤ sizeLine := by omega
  have l2 : 2 ≤ sizeLine := by omega
  have l3 : 3 ≤ sizeLine := by omega
  have l5 : 5 ≤ sizeLine := by omega
  have l9 : 9 ≤ sizeLine := by omega
  have eb := box_run b gb
  rw [hb] at eb
  have en := plain_run n gn
  rw [hn] at en
  have row : F_row_of.run [.fr (.tup [.str "set", b, n])] = some (.ow (.obj 3 [(.tup [.str "set", b, n])]), [some (.fr (.tup [.str "set", b, n]))]) := run_eq rfl (by
    have it : isD .tuple (.tup [.str "set", b, n]) = some true := rfl
    have is : isD .str (.str "set") = some true := rfl
    simp [b_row_of, E.pu, Es.pu, Ar.pu, Oe.pu, It.pu, cmpD, ofS_beq, ofS_inj, eqD_tnil, eqD_one, inD, D.plain, D.plains, D.py, PyData.eqv, isTup, isStr, init_run, O, l0, l1, l2, l5, frz, idxD, at_, atI, ixN, len_tup, atomD, it, is, eb, en])
  have dn : F__law_due_names.run [.fr (.tup [.str "set", b, n])] = some (.ow (.lst []), [some (.fr (.tup [.str "set", b, n]))]) := run_eq rfl (by
    simp [b__law_due_names, E.pu, Es.pu, Ar.pu, Oe.pu, It.pu, cmpD, ofS_beq, ofS_inj, eqD_tnil, eqD_one, inD, D.plain, D.plains, D.py, PyData.eqv, isTup, isStr, init_run, O, l0, l1, l2, l5, frz, idxD, at_, atI, ixN, len_tup, atomD, biD])
  have dl : F__law_due_lengths.run [.fr (.tup [.str "set", b, n])] = some (.fr (.tup [.int 5]), [some (.fr (.tup [.str "set", b, n]))]) := run_eq rfl (by
    simp [b__law_due_lengths, E.pu, Es.pu, Ar.pu, Oe.pu, It.pu, cmpD, ofS_beq, ofS_inj, eqD_tnil, eqD_one, inD, D.plain, D.plains, D.py, PyData.eqv, isTup, isStr, init_run, O, l0, l1, l2, l5, frz, idxD, at_, atI, ixN, len_tup, atomD])
  refine ⟨by decide, ?_, ?_, by decide +kernel, ⟨_, rfl, rfl, go_CodeRow (by decide) _⟩, ⟨_, _, rfl, rfl, wo_Row (by decide) _, by simp⟩, ⟨_, rfl, rfl, as_Row (by decide) _⟩, ⟨_, rfl, rfl, le_Set (by decide) _⟩, row, dn, dl⟩
  · show D.plains 58 [.str "set", b, n] = true
    simp [D.plains, D.plain, plain_box hb 58, plain_int hn 58]
  · show D.plains 58 [] = true
    simp [D.plains]
theorem kd_add {b : D} (gb : G0 b) (hb : isBox b = true) {c : D} (gc : G0 c) (hc : isBox c = true) : Kd (.tup [.str "add", b, c]) 4 [] [.int 1] true := by
  have big := big
  have l0 : (0 : Nat) ≤ sizeLine := by omega
  have l1 : 1 ≤ sizeLine := by omega
  have l2 : 2 ≤ sizeLine := by omega
  have l3 : 3 ≤ sizeLine := by omega
  have l5 : 5 ≤ sizeLine := by omega
  have l9 : 9 ≤ sizeLine := by omega
  have eb := box_run b gb
  rw [hb] at eb
  have ec := box_run c gc
  rw [hc] at ec
  have inner := boxes_run "add" [b, c] (fun d hd => by
    simp only [List.mem_cons, List.not_mem_nil, or_false] at hd
    rcases hd with rfl | rfl
    · exact ⟨gb, fun ds z => by subst z; cases hb⟩
    · exact ⟨gc, fun ds z => by subst z; cases hc⟩)
  have bx : boxesR "add" [b, c] = .ow (.obj 4 [(.tup [.str "add", b, c])]) := by simp [boxesR, ofS_beq, O, hb, hc]
  rw [bx] at inner
  have row : F_row_of.run [.fr (.tup [.str "add", b, c])] = some (.ow (.obj 4 [(.tup [.str "add", b, c])]), [some (.fr (.tup [.str "add", b, c]))]) := run_eq rfl (by
    have it : isD .tuple (.tup [.str "add", b, c]) = some true := rfl
    have is : isD .str (.str "add") = some true := rfl
    simp [b_row_of, E.pu, Es.pu, Ar.pu, Oe.pu, It.pu, cmpD, ofS_beq, ofS_inj, eqD_tnil, eqD_one, inD, D.plain, D.plains, D.py, PyData.eqv, isTup, isStr, init_run, O, l0, l1, l2, l5, frz, idxD, at_, atI, ixN, len_tup, atomD, it, is, inner])
  have dn : F__law_due_names.run [.fr (.tup [.str "add", b, c])] = some (.ow (.lst []), [some (.fr (.tup [.str "add", b, c]))]) := run_eq rfl (by
    simp [b__law_due_names, E.pu, Es.pu, Ar.pu, Oe.pu, It.pu, cmpD, ofS_beq, ofS_inj, eqD_tnil, eqD_one, inD, D.plain, D.plains, D.py, PyData.eqv, isTup, isStr, init_run, O, l0, l1, l2, l5, frz, idxD, at_, atI, ixN, len_tup, atomD, biD])
  have dl : F__law_due_lengths.run [.fr (.tup [.str "add", b, c])] = some (.fr (.tup [.int 1]), [some (.fr (.tup [.str "add", b, c]))]) := run_eq rfl (by
    simp [b__law_due_lengths, E.pu, Es.pu, Ar.pu, Oe.pu, It.pu, cmpD, ofS_beq, ofS_inj, eqD_tnil, eqD_one, inD, D.plain, D.plains, D.py, PyData.eqv, isTup, isStr, init_run, O, l0, l1, l2, l5, frz, idxD, at_, atI, ixN, len_tup, atomD])
  refine ⟨by decide, ?_, ?_, by decide +kernel, ⟨_, rfl, rfl, go_CodeRow (by decide) _⟩, ⟨_, _, rfl, rfl, wo_Row (by decide) _, by simp⟩, ⟨_, rfl, rfl, as_Row (by decide) _⟩, ⟨_, rfl, rfl, le_Code (by decide) _⟩, row, dn, dl⟩
  · show D.plains 58 [.str "add", b, c] = true
    simp [D.plains, D.plain, plain_box hb 58, plain_box hc 58]
  · show D.plains 58 [] = true
    simp [D.plains]
theorem kd_take {b : D} (gb : G0 b) (hb : isBox b = true) {c : D} (gc : G0 c) (hc : isBox c = true) : Kd (.tup [.str "take", b, c]) 5 [] [.int 1] true := by
  have big := big
  have l0 : (0 : Nat) ≤ sizeLine := by omega
  have l1 : 1 ≤ sizeLine := by omega
  have l2 : 2 ≤ sizeLine := by omega
  have l3 : 3 ≤ sizeLine := by omega
  have l5 : 5 ≤ sizeLine := by omega
  have l9 : 9 ≤ sizeLine := by omega
  have eb := box_run b gb
  rw [hb] at eb
  have ec := box_run c gc
  rw [hc] at ec
  have inner := boxes_run "take" [b, c] (fun d hd => by
    simp only [List.mem_cons, List.not_mem_nil, or_false] at hd
    rcases hd with rfl | rfl
    · exact ⟨gb, fun ds z => by subst z; cases hb⟩
    · exact ⟨gc, fun ds z => by subst z; cases hc⟩)
  have bx : boxesR "take" [b, c] = .ow (.obj 5 [(.tup [.str "take", b, c])]) := by simp [boxesR, ofS_beq, O, hb, hc]
  rw [bx] at inner
  have row : F_row_of.run [.fr (.tup [.str "take", b, c])] = some (.ow (.obj 5 [(.tup [.str "take", b, c])]), [some (.fr (.tup [.str "take", b, c]))]) := run_eq rfl (by
    have it : isD .tuple (.tup [.str "take", b, c]) = some true := rfl
    have is : isD .str (.str "take") = some true := rfl
    simp [b_row_of, E.pu, Es.pu, Ar.pu, Oe.pu, It.pu, cmpD, ofS_beq, ofS_inj, eqD_tnil, eqD_one, inD, D.plain, D.plains, D.py, PyData.eqv, isTup, isStr, init_run, O, l0, l1, l2, l5, frz, idxD, at_, atI, ixN, len_tup, atomD, it, is, inner])
  have dn : F__law_due_names.run [.fr (.tup [.str "take", b, c])] = some (.ow (.lst []), [some (.fr (.tup [.str "take", b, c]))]) := run_eq rfl (by
    simp [b__law_due_names, E.pu, Es.pu, Ar.pu, Oe.pu, It.pu, cmpD, ofS_beq, ofS_inj, eqD_tnil, eqD_one, inD, D.plain, D.plains, D.py, PyData.eqv, isTup, isStr, init_run, O, l0, l1, l2, l5, frz, idxD, at_, atI, ixN, len_tup, atomD, biD])
  have dl : F__law_due_lengths.run [.fr (.tup [.str "take", b, c])] = some (.fr (.tup [.int 1]), [some (.fr (.tup [.str "take", b, c]))]) := run_eq rfl (by
    simp [b__law_due_lengths, E.pu, Es.pu, Ar.pu, Oe.pu, It.pu, cmpD, ofS_beq, ofS_inj, eqD_tnil, eqD_one, inD, D.plain, D.plains, D.py, PyData.eqv, isTup, isStr, init_run, O, l0, l1, l2, l5, frz, idxD, at_, atI, ixN, len_tup, atomD])
  refine ⟨by decide, ?_, ?_, by decide +kernel, ⟨_, rfl, rfl, go_CodeRow (by decide) _⟩, ⟨_, _, rfl, rfl, wo_Row (by decide) _, by simp⟩, ⟨_, rfl, rfl, as_Row (by decide) _⟩, ⟨_, rfl, rfl, le_Code (by decide) _⟩, row, dn, dl⟩
  · show D.plains 58 [.str "take", b, c] = true
    simp [D.plains, D.plain, plain_box hb 58, plain_box hc 58]
  · show D.plains 58 [] = true
    simp [D.plains]
theorem kd_say {b : D} (gb : G0 b) (hb : isBox b = true) : Kd (.tup [.str "say", b]) 6 [] [.int 1] true := by
  have big := big
  have l0 : (0 : Nat) ≤ sizeLine := by omega
  have l1 : 1 ≤ sizeLine := by omega
  have l2 : 2 ≤ sizeLine := by omega
  have l3 : 3 ≤ sizeLine := by omega
  have l5 : 5 ≤ sizeLine := by omega
  have l9 : 9 ≤ sizeLine := by omega
  have eb := box_run b gb
  rw [hb] at eb
  have inner := boxes_run "say" [b] (fun d hd => by
    simp only [List.mem_cons, List.not_mem_nil, or_false] at hd
    rcases hd with rfl
    · exact ⟨gb, fun ds z => by subst z; cases hb⟩)
  have bx : boxesR "say" [b] = .ow (.obj 6 [(.tup [.str "say", b])]) := by simp [boxesR, ofS_beq, O, hb]
  rw [bx] at inner
  have row : F_row_of.run [.fr (.tup [.str "say", b])] = some (.ow (.obj 6 [(.tup [.str "say", b])]), [some (.fr (.tup [.str "say", b]))]) := run_eq rfl (by
    have it : isD .tuple (.tup [.str "say", b]) = some true := rfl
    have is : isD .str (.str "say") = some true := rfl
    simp [b_row_of, E.pu, Es.pu, Ar.pu, Oe.pu, It.pu, cmpD, ofS_beq, ofS_inj, eqD_tnil, eqD_one, inD, D.plain, D.plains, D.py, PyData.eqv, isTup, isStr, init_run, O, l0, l1, l2, l5, frz, idxD, at_, atI, ixN, len_tup, atomD, it, is, inner])
  have dn : F__law_due_names.run [.fr (.tup [.str "say", b])] = some (.ow (.lst []), [some (.fr (.tup [.str "say", b]))]) := run_eq rfl (by
    simp [b__law_due_names, E.pu, Es.pu, Ar.pu, Oe.pu, It.pu, cmpD, ofS_beq, ofS_inj, eqD_tnil, eqD_one, inD, D.plain, D.plains, D.py, PyData.eqv, isTup, isStr, init_run, O, l0, l1, l2, l5, frz, idxD, at_, atI, ixN, len_tup, atomD, biD])
  have dl : F__law_due_lengths.run [.fr (.tup [.str "say", b])] = some (.fr (.tup [.int 1]), [some (.fr (.tup [.str "say", b]))]) := run_eq rfl (by
    simp [b__law_due_lengths, E.pu, Es.pu, Ar.pu, Oe.pu, It.pu, cmpD, ofS_beq, ofS_inj, eqD_tnil, eqD_one, inD, D.plain, D.plains, D.py, PyData.eqv, isTup, isStr, init_run, O, l0, l1, l2, l5, frz, idxD, at_, atI, ixN, len_tup, atomD])
  refine ⟨by decide, ?_, ?_, by decide +kernel, ⟨_, rfl, rfl, go_CodeRow (by decide) _⟩, ⟨_, _, rfl, rfl, wo_Row (by decide) _, by simp⟩, ⟨_, rfl, rfl, as_Row (by decide) _⟩, ⟨_, rfl, rfl, le_Code (by decide) _⟩, row, dn, dl⟩
  · show D.plains 58 [.str "say", b] = true
    simp [D.plains, D.plain, plain_box hb 58]
  · show D.plains 58 [] = true
    simp [D.plains]
theorem kd_ask {b : D} (gb : G0 b) (hb : isBox b = true) : Kd (.tup [.str "ask", b]) 7 [] [.int 1] true := by
  have big := big
  have l0 : (0 : Nat) ≤ sizeLine := by omega
  have l1 : 1 ≤ sizeLine := by omega
  have l2 : 2 ≤ sizeLine := by omega
  have l3 : 3 ≤ sizeLine := by omega
  have l5 : 5 ≤ sizeLine := by omega
  have l9 : 9 ≤ sizeLine := by omega
  have eb := box_run b gb
  rw [hb] at eb
  have inner := boxes_run "ask" [b] (fun d hd => by
    simp only [List.mem_cons, List.not_mem_nil, or_false] at hd
    rcases hd with rfl
    · exact ⟨gb, fun ds z => by subst z; cases hb⟩)
  have bx : boxesR "ask" [b] = .ow (.obj 7 [(.tup [.str "ask", b])]) := by simp [boxesR, ofS_beq, O, hb]
  rw [bx] at inner
  have row : F_row_of.run [.fr (.tup [.str "ask", b])] = some (.ow (.obj 7 [(.tup [.str "ask", b])]), [some (.fr (.tup [.str "ask", b]))]) := run_eq rfl (by
    have it : isD .tuple (.tup [.str "ask", b]) = some true := rfl
    have is : isD .str (.str "ask") = some true := rfl
    simp [b_row_of, E.pu, Es.pu, Ar.pu, Oe.pu, It.pu, cmpD, ofS_beq, ofS_inj, eqD_tnil, eqD_one, inD, D.plain, D.plains, D.py, PyData.eqv, isTup, isStr, init_run, O, l0, l1, l2, l5, frz, idxD, at_, atI, ixN, len_tup, atomD, it, is, inner])
  have dn : F__law_due_names.run [.fr (.tup [.str "ask", b])] = some (.ow (.lst []), [some (.fr (.tup [.str "ask", b]))]) := run_eq rfl (by
    simp [b__law_due_names, E.pu, Es.pu, Ar.pu, Oe.pu, It.pu, cmpD, ofS_beq, ofS_inj, eqD_tnil, eqD_one, inD, D.plain, D.plains, D.py, PyData.eqv, isTup, isStr, init_run, O, l0, l1, l2, l5, frz, idxD, at_, atI, ixN, len_tup, atomD, biD])
  have dl : F__law_due_lengths.run [.fr (.tup [.str "ask", b])] = some (.fr (.tup [.int 1]), [some (.fr (.tup [.str "ask", b]))]) := run_eq rfl (by
    simp [b__law_due_lengths, E.pu, Es.pu, Ar.pu, Oe.pu, It.pu, cmpD, ofS_beq, ofS_inj, eqD_tnil, eqD_one, inD, D.plain, D.plains, D.py, PyData.eqv, isTup, isStr, init_run, O, l0, l1, l2, l5, frz, idxD, at_, atI, ixN, len_tup, atomD])
  refine ⟨by decide, ?_, ?_, by decide +kernel, ⟨_, rfl, rfl, go_CodeRow (by decide) _⟩, ⟨_, _, rfl, rfl, wo_Row (by decide) _, by simp⟩, ⟨_, rfl, rfl, as_Row (by decide) _⟩, ⟨_, rfl, rfl, le_Code (by decide) _⟩, row, dn, dl⟩
  · show D.plains 58 [.str "ask", b] = true
    simp [D.plains, D.plain, plain_box hb 58]
  · show D.plains 58 [] = true
    simp [D.plains]
theorem kd_jump {w : D} (gw : G0 w) (hw : isWord w = true) : Kd (.tup [.str "jump", w]) 9 [w] [.int 2, .int 3] false := by
  have big := big
  have l0 : (0 : Nat) ≤ sizeLine := by omega
  have l1 : 1 ≤ sizeLine := by omega
  have l2 : 2 ≤ sizeLine := by omega
  have l3 : 3 ≤ sizeLine := by omega
  have l5 : 5 ≤ sizeLine := by omega
  have l9 : 9 ≤ sizeLine := by omega
  have ew := word_run w gw
  rw [hw] at ew
  have gg : ∀ d ∈ [w], G1 d := fun d hd => by
    simp only [List.mem_cons, List.not_mem_nil, or_false] at hd
    rcases hd with rfl
    · exact ⟨gw, fun ds z => by subst z; cases hw⟩
  have ac := aim_cond "jump" [w] (by decide +kernel) gg (by simp)
  have inner : F_with_aim.run [.fr (.tup [.str "jump", w])] = some (.ow (.obj 9 [(.tup [.str "jump", w])]), [some (.fr (.tup [.str "jump", w]))]) := by
    refine run_eq rfl ?_
    show WPt (evS b_with_aim [some (.fr (.tup [.str "jump", w])), none]) _ _
    simp only [b_with_aim, WP_seq, WP_ife]
    rw [ac]
    simp [E.pu, Es.pu, Ar.pu, Oe.pu, It.pu, cmpD, ofS_beq, ofS_inj, eqD_tnil, eqD_one, inD, D.plain, D.plains, D.py, PyData.eqv, isTup, isStr, init_run, O, l0, l1, l2, l5, frz, idxD, at_, atI, ixN, len_tup, atomD, hw]
  have row : F_row_of.run [.fr (.tup [.str "jump", w])] = some (.ow (.obj 9 [(.tup [.str "jump", w])]), [some (.fr (.tup [.str "jump", w]))]) := run_eq rfl (by
    have it : isD .tuple (.tup [.str "jump", w]) = some true := rfl
    have is : isD .str (.str "jump") = some true := rfl
    simp [b_row_of, E.pu, Es.pu, Ar.pu, Oe.pu, It.pu, cmpD, ofS_beq, ofS_inj, eqD_tnil, eqD_one, inD, D.plain, D.plains, D.py, PyData.eqv, isTup, isStr, init_run, O, l0, l1, l2, l5, frz, idxD, at_, atI, ixN, len_tup, atomD, it, is, inner])
  have dn : F__law_due_names.run [.fr (.tup [.str "jump", w])] = some (.ow (.lst [w]), [some (.fr (.tup [.str "jump", w]))]) := run_eq rfl (by
    simp [b__law_due_names, E.pu, Es.pu, Ar.pu, Oe.pu, It.pu, cmpD, ofS_beq, ofS_inj, eqD_tnil, eqD_one, inD, D.plain, D.plains, D.py, PyData.eqv, isTup, isStr, init_run, O, l0, l1, l2, l5, frz, idxD, at_, atI, ixN, len_tup, atomD, biD])
  have dl : F__law_due_lengths.run [.fr (.tup [.str "jump", w])] = some (.fr (.tup [.int 2, .int 3]), [some (.fr (.tup [.str "jump", w]))]) := run_eq rfl (by
    simp [b__law_due_lengths, E.pu, Es.pu, Ar.pu, Oe.pu, It.pu, cmpD, ofS_beq, ofS_inj, eqD_tnil, eqD_one, inD, D.plain, D.plains, D.py, PyData.eqv, isTup, isStr, init_run, O, l0, l1, l2, l5, frz, idxD, at_, atI, ixN, len_tup, atomD])
  refine ⟨by decide, ?_, ?_, by decide +kernel, ⟨_, rfl, rfl, go_JumpRow (by decide) _⟩, ⟨_, _, rfl, rfl, wo_Row (by decide) _, by simp⟩, ⟨_, rfl, rfl, as_Aim (by decide) _ _⟩, ⟨_, rfl, rfl, le_Aim (by decide) _⟩, row, dn, dl⟩
  · show D.plains 58 [.str "jump", w] = true
    simp [D.plains, D.plain, plain_word hw 58]
  · show D.plains 58 [w] = true
    simp [D.plains, plain_word hw 58]
theorem kd_jumpif {b : D} (gb : G0 b) (hb : isBox b = true) {w : D} (gw : G0 w) (hw : isWord w = true) : Kd (.tup [.str "jumpif", b, w]) 10 [w] [.int 2, .int 3] true := by
  have big := big
  have l0 : (0 : Nat) ≤ sizeLine := by omega
  have l1 : 1 ≤ sizeLine := by omega
  have l2 : 2 ≤ sizeLine := by omega
  have l3 : 3 ≤ sizeLine := by omega
  have l5 : 5 ≤ sizeLine := by omega
  have l9 : 9 ≤ sizeLine := by omega
  have eb := box_run b gb
  rw [hb] at eb
  have ew := word_run w gw
  rw [hw] at ew
  have gg : ∀ d ∈ [b, w], G1 d := fun d hd => by
    simp only [List.mem_cons, List.not_mem_nil, or_false] at hd
    rcases hd with rfl | rfl
    · exact ⟨gb, fun ds z => by subst z; cases hb⟩
    · exact ⟨gw, fun ds z => by subst z; cases hw⟩
  have ac := aim_cond "jumpif" [b, w] (by decide +kernel) gg (by simp)
  have inner : F_with_aim.run [.fr (.tup [.str "jumpif", b, w])] = some (.ow (.obj 10 [(.tup [.str "jumpif", b, w])]), [some (.fr (.tup [.str "jumpif", b, w]))]) := by
    refine run_eq rfl ?_
    show WPt (evS b_with_aim [some (.fr (.tup [.str "jumpif", b, w])), none]) _ _
    simp only [b_with_aim, WP_seq, WP_ife]
    rw [ac]
    simp [E.pu, Es.pu, Ar.pu, Oe.pu, It.pu, cmpD, ofS_beq, ofS_inj, eqD_tnil, eqD_one, inD, D.plain, D.plains, D.py, PyData.eqv, isTup, isStr, init_run, O, l0, l1, l2, l5, frz, idxD, at_, atI, ixN, len_tup, atomD, hb, hw]
  have row : F_row_of.run [.fr (.tup [.str "jumpif", b, w])] = some (.ow (.obj 10 [(.tup [.str "jumpif", b, w])]), [some (.fr (.tup [.str "jumpif", b, w]))]) := run_eq rfl (by
    have it : isD .tuple (.tup [.str "jumpif", b, w]) = some true := rfl
    have is : isD .str (.str "jumpif") = some true := rfl
    simp [b_row_of, E.pu, Es.pu, Ar.pu, Oe.pu, It.pu, cmpD, ofS_beq, ofS_inj, eqD_tnil, eqD_one, inD, D.plain, D.plains, D.py, PyData.eqv, isTup, isStr, init_run, O, l0, l1, l2, l5, frz, idxD, at_, atI, ixN, len_tup, atomD, it, is, inner])
  have dn : F__law_due_names.run [.fr (.tup [.str "jumpif", b, w])] = some (.ow (.lst [w]), [some (.fr (.tup [.str "jumpif", b, w]))]) := run_eq rfl (by
    simp [b__law_due_names, E.pu, Es.pu, Ar.pu, Oe.pu, It.pu, cmpD, ofS_beq, ofS_inj, eqD_tnil, eqD_one, inD, D.plain, D.plains, D.py, PyData.eqv, isTup, isStr, init_run, O, l0, l1, l2, l5, frz, idxD, at_, atI, ixN, len_tup, atomD, biD])
  have dl : F__law_due_lengths.run [.fr (.tup [.str "jumpif", b, w])] = some (.fr (.tup [.int 2, .int 3]), [some (.fr (.tup [.str "jumpif", b, w]))]) := run_eq rfl (by
    simp [b__law_due_lengths, E.pu, Es.pu, Ar.pu, Oe.pu, It.pu, cmpD, ofS_beq, ofS_inj, eqD_tnil, eqD_one, inD, D.plain, D.plains, D.py, PyData.eqv, isTup, isStr, init_run, O, l0, l1, l2, l5, frz, idxD, at_, atI, ixN, len_tup, atomD])
  refine ⟨by decide, ?_, ?_, by decide +kernel, ⟨_, rfl, rfl, go_CodeRow (by decide) _⟩, ⟨_, _, rfl, rfl, wo_Row (by decide) _, by simp⟩, ⟨_, rfl, rfl, as_Aim (by decide) _ _⟩, ⟨_, rfl, rfl, le_Aim (by decide) _⟩, row, dn, dl⟩
  · show D.plains 58 [.str "jumpif", b, w] = true
    simp [D.plains, D.plain, plain_box hb 58, plain_word hw 58]
  · show D.plains 58 [w] = true
    simp [D.plains, plain_word hw 58]
theorem kd_call {w : D} (gw : G0 w) (hw : isWord w = true) : Kd (.tup [.str "call", w]) 11 [w] [.int 2, .int 3] true := by
  have big := big
  have l0 : (0 : Nat) ≤ sizeLine := by omega
  have l1 : 1 ≤ sizeLine := by omega
  have l2 : 2 ≤ sizeLine := by omega
  have l3 : 3 ≤ sizeLine := by omega
  have l5 : 5 ≤ sizeLine := by omega
  have l9 : 9 ≤ sizeLine := by omega
  have ew := word_run w gw
  rw [hw] at ew
  have gg : ∀ d ∈ [w], G1 d := fun d hd => by
    simp only [List.mem_cons, List.not_mem_nil, or_false] at hd
    rcases hd with rfl
    · exact ⟨gw, fun ds z => by subst z; cases hw⟩
  have ac := aim_cond "call" [w] (by decide +kernel) gg (by simp)
  have inner : F_with_aim.run [.fr (.tup [.str "call", w])] = some (.ow (.obj 11 [(.tup [.str "call", w])]), [some (.fr (.tup [.str "call", w]))]) := by
    refine run_eq rfl ?_
    show WPt (evS b_with_aim [some (.fr (.tup [.str "call", w])), none]) _ _
    simp only [b_with_aim, WP_seq, WP_ife]
    rw [ac]
    simp [E.pu, Es.pu, Ar.pu, Oe.pu, It.pu, cmpD, ofS_beq, ofS_inj, eqD_tnil, eqD_one, inD, D.plain, D.plains, D.py, PyData.eqv, isTup, isStr, init_run, O, l0, l1, l2, l5, frz, idxD, at_, atI, ixN, len_tup, atomD, hw]
  have row : F_row_of.run [.fr (.tup [.str "call", w])] = some (.ow (.obj 11 [(.tup [.str "call", w])]), [some (.fr (.tup [.str "call", w]))]) := run_eq rfl (by
    have it : isD .tuple (.tup [.str "call", w]) = some true := rfl
    have is : isD .str (.str "call") = some true := rfl
    simp [b_row_of, E.pu, Es.pu, Ar.pu, Oe.pu, It.pu, cmpD, ofS_beq, ofS_inj, eqD_tnil, eqD_one, inD, D.plain, D.plains, D.py, PyData.eqv, isTup, isStr, init_run, O, l0, l1, l2, l5, frz, idxD, at_, atI, ixN, len_tup, atomD, it, is, inner])
  have dn : F__law_due_names.run [.fr (.tup [.str "call", w])] = some (.ow (.lst [w]), [some (.fr (.tup [.str "call", w]))]) := run_eq rfl (by
    simp [b__law_due_names, E.pu, Es.pu, Ar.pu, Oe.pu, It.pu, cmpD, ofS_beq, ofS_inj, eqD_tnil, eqD_one, inD, D.plain, D.plains, D.py, PyData.eqv, isTup, isStr, init_run, O, l0, l1, l2, l5, frz, idxD, at_, atI, ixN, len_tup, atomD, biD])
  have dl : F__law_due_lengths.run [.fr (.tup [.str "call", w])] = some (.fr (.tup [.int 2, .int 3]), [some (.fr (.tup [.str "call", w]))]) := run_eq rfl (by
    simp [b__law_due_lengths, E.pu, Es.pu, Ar.pu, Oe.pu, It.pu, cmpD, ofS_beq, ofS_inj, eqD_tnil, eqD_one, inD, D.plain, D.plains, D.py, PyData.eqv, isTup, isStr, init_run, O, l0, l1, l2, l5, frz, idxD, at_, atI, ixN, len_tup, atomD])
  refine ⟨by decide, ?_, ?_, by decide +kernel, ⟨_, rfl, rfl, go_CodeRow (by decide) _⟩, ⟨_, _, rfl, rfl, wo_Row (by decide) _, by simp⟩, ⟨_, rfl, rfl, as_Aim (by decide) _ _⟩, ⟨_, rfl, rfl, le_Aim (by decide) _⟩, row, dn, dl⟩
  · show D.plains 58 [.str "call", w] = true
    simp [D.plains, D.plain, plain_word hw 58]
  · show D.plains 58 [w] = true
    simp [D.plains, plain_word hw 58]
theorem kd_back : Kd (.tup [.str "back"]) 15 [] [.int 1] false := by
  have big := big
  have l0 : (0 : Nat) ≤ sizeLine := by omega
  have l1 : 1 ≤ sizeLine := by omega
  have l2 : 2 ≤ sizeLine := by omega
  have l3 : 3 ≤ sizeLine := by omega
  have l5 : 5 ≤ sizeLine := by omega
  have l9 : 9 ≤ sizeLine := by omega
  have inner := boxes_run "back" [] (fun d hd => by
    simp only [List.mem_cons, List.not_mem_nil, or_false] at hd
    try cases hd)
  have bx : boxesR "back" [] = .ow (.obj 15 [(.tup [.str "back"])]) := by simp [boxesR, ofS_beq, O]
  rw [bx] at inner
  have row : F_row_of.run [.fr (.tup [.str "back"])] = some (.ow (.obj 15 [(.tup [.str "back"])]), [some (.fr (.tup [.str "back"]))]) := run_eq rfl (by
    have it : isD .tuple (.tup [.str "back"]) = some true := rfl
    have is : isD .str (.str "back") = some true := rfl
    simp [b_row_of, E.pu, Es.pu, Ar.pu, Oe.pu, It.pu, cmpD, ofS_beq, ofS_inj, eqD_tnil, eqD_one, inD, D.plain, D.plains, D.py, PyData.eqv, isTup, isStr, init_run, O, l0, l1, l2, l5, frz, idxD, at_, atI, ixN, len_tup, atomD, it, is, inner])
  have dn : F__law_due_names.run [.fr (.tup [.str "back"])] = some (.ow (.lst []), [some (.fr (.tup [.str "back"]))]) := run_eq rfl (by
    simp [b__law_due_names, E.pu, Es.pu, Ar.pu, Oe.pu, It.pu, cmpD, ofS_beq, ofS_inj, eqD_tnil, eqD_one, inD, D.plain, D.plains, D.py, PyData.eqv, isTup, isStr, init_run, O, l0, l1, l2, l5, frz, idxD, at_, atI, ixN, len_tup, atomD, biD])
  have dl : F__law_due_lengths.run [.fr (.tup [.str "back"])] = some (.fr (.tup [.int 1]), [some (.fr (.tup [.str "back"]))]) := run_eq rfl (by
    simp [b__law_due_lengths, E.pu, Es.pu, Ar.pu, Oe.pu, It.pu, cmpD, ofS_beq, ofS_inj, eqD_tnil, eqD_one, inD, D.plain, D.plains, D.py, PyData.eqv, isTup, isStr, init_run, O, l0, l1, l2, l5, frz, idxD, at_, atI, ixN, len_tup, atomD])
  refine ⟨by decide, ?_, ?_, by decide +kernel, ⟨_, rfl, rfl, go_BackRow (by decide) _⟩, ⟨_, _, rfl, rfl, wo_Row (by decide) _, by simp⟩, ⟨_, rfl, rfl, as_Row (by decide) _⟩, ⟨_, rfl, rfl, le_Code (by decide) _⟩, row, dn, dl⟩
  · show D.plains 58 [.str "back"] = true
    simp [D.plains, D.plain]
  · show D.plains 58 [] = true
    simp [D.plains]
theorem kd_stop : Kd (.tup [.str "stop"]) 16 [] [.int 1] false := by
  have big := big
  have l0 : (0 : Nat) ≤ sizeLine := by omega
  have l1 : 1 ≤ sizeLine := by omega
  have l2 : 2 ≤ sizeLine := by omega
  have l3 : 3 ≤ sizeLine := by omega
  have l5 : 5 ≤ sizeLine := by omega
  have l9 : 9 ≤ sizeLine := by omega
  have inner := boxes_run "stop" [] (fun d hd => by
    simp only [List.mem_cons, List.not_mem_nil, or_false] at hd
    try cases hd)
  have bx : boxesR "stop" [] = .ow (.obj 16 [(.tup [.str "stop"])]) := by simp [boxesR, ofS_beq, O]
  rw [bx] at inner
  have row : F_row_of.run [.fr (.tup [.str "stop"])] = some (.ow (.obj 16 [(.tup [.str "stop"])]), [some (.fr (.tup [.str "stop"]))]) := run_eq rfl (by
    have it : isD .tuple (.tup [.str "stop"]) = some true := rfl
    have is : isD .str (.str "stop") = some true := rfl
    simp [b_row_of, E.pu, Es.pu, Ar.pu, Oe.pu, It.pu, cmpD, ofS_beq, ofS_inj, eqD_tnil, eqD_one, inD, D.plain, D.plains, D.py, PyData.eqv, isTup, isStr, init_run, O, l0, l1, l2, l5, frz, idxD, at_, atI, ixN, len_tup, atomD, it, is, inner])
  have dn : F__law_due_names.run [.fr (.tup [.str "stop"])] = some (.ow (.lst []), [some (.fr (.tup [.str "stop"]))]) := run_eq rfl (by
    simp [b__law_due_names, E.pu, Es.pu, Ar.pu, Oe.pu, It.pu, cmpD, ofS_beq, ofS_inj, eqD_tnil, eqD_one, inD, D.plain, D.plains, D.py, PyData.eqv, isTup, isStr, init_run, O, l0, l1, l2, l5, frz, idxD, at_, atI, ixN, len_tup, atomD, biD])
  have dl : F__law_due_lengths.run [.fr (.tup [.str "stop"])] = some (.fr (.tup [.int 1]), [some (.fr (.tup [.str "stop"]))]) := run_eq rfl (by
    simp [b__law_due_lengths, E.pu, Es.pu, Ar.pu, Oe.pu, It.pu, cmpD, ofS_beq, ofS_inj, eqD_tnil, eqD_one, inD, D.plain, D.plains, D.py, PyData.eqv, isTup, isStr, init_run, O, l0, l1, l2, l5, frz, idxD, at_, atI, ixN, len_tup, atomD])
  refine ⟨by decide, ?_, ?_, by decide +kernel, ⟨_, rfl, rfl, go_StopRow (by decide) _⟩, ⟨_, _, rfl, rfl, wo_Row (by decide) _, by simp⟩, ⟨_, rfl, rfl, as_Row (by decide) _⟩, ⟨_, rfl, rfl, le_Code (by decide) _⟩, row, dn, dl⟩
  · show D.plains 58 [.str "stop"] = true
    simp [D.plains, D.plain]
  · show D.plains 58 [] = true
    simp [D.plains]
theorem kd_load {b : D} (gb : G0 b) (hb : isBox b = true) {c : D} (gc : G0 c) (hc : isBox c = true) {w : D} (gw : G0 w) (hw : isWord w = true) : Kd (.tup [.str "load", b, c, w]) 12 [w] [.int 2, .int 3] true := by
  have big := big
  have l0 : (0 : Nat) ≤ sizeLine := by omega
  have l1 : 1 ≤ sizeLine := by omega
  have l2 : 2 ≤ sizeLine := by omega
  have l3 : 3 ≤ sizeLine := by omega
  have l5 : 5 ≤ sizeLine := by omega
  have l9 : 9 ≤ sizeLine := by omega
  have eb := box_run b gb
  rw [hb] at eb
  have ec := box_run c gc
  rw [hc] at ec
  have ew := word_run w gw
  rw [hw] at ew
  have gg : ∀ d ∈ [b, c, w], G1 d := fun d hd => by
    simp only [List.mem_cons, List.not_mem_nil, or_false] at hd
    rcases hd with rfl | rfl | rfl
    · exact ⟨gb, fun ds z => by subst z; cases hb⟩
    · exact ⟨gc, fun ds z => by subst z; cases hc⟩
    · exact ⟨gw, fun ds z => by subst z; cases hw⟩
  have ac := aim_cond "load" [b, c, w] (by decide +kernel) gg (by simp)
  have inner : F_with_aim.run [.fr (.tup [.str "load", b, c, w])] = some (.ow (.obj 12 [(.tup [.str "load", b, c, w])]), [some (.fr (.tup [.str "load", b, c, w]))]) := by
    refine run_eq rfl ?_
    show WPt (evS b_with_aim [some (.fr (.tup [.str "load", b, c, w])), none]) _ _
    simp only [b_with_aim, WP_seq, WP_ife]
    rw [ac]
    simp [E.pu, Es.pu, Ar.pu, Oe.pu, It.pu, cmpD, ofS_beq, ofS_inj, eqD_tnil, eqD_one, inD, D.plain, D.plains, D.py, PyData.eqv, isTup, isStr, init_run, O, l0, l1, l2, l5, frz, idxD, at_, atI, ixN, len_tup, atomD, hb, hc, hw]
  have row : F_row_of.run [.fr (.tup [.str "load", b, c, w])] = some (.ow (.obj 12 [(.tup [.str "load", b, c, w])]), [some (.fr (.tup [.str "load", b, c, w]))]) := run_eq rfl (by
    have it : isD .tuple (.tup [.str "load", b, c, w]) = some true := rfl
    have is : isD .str (.str "load") = some true := rfl
    simp [b_row_of, E.pu, Es.pu, Ar.pu, Oe.pu, It.pu, cmpD, ofS_beq, ofS_inj, eqD_tnil, eqD_one, inD, D.plain, D.plains, D.py, PyData.eqv, isTup, isStr, init_run, O, l0, l1, l2, l5, frz, idxD, at_, atI, ixN, len_tup, atomD, it, is, inner])
  have dn : F__law_due_names.run [.fr (.tup [.str "load", b, c, w])] = some (.ow (.lst [w]), [some (.fr (.tup [.str "load", b, c, w]))]) := run_eq rfl (by
    simp [b__law_due_names, E.pu, Es.pu, Ar.pu, Oe.pu, It.pu, cmpD, ofS_beq, ofS_inj, eqD_tnil, eqD_one, inD, D.plain, D.plains, D.py, PyData.eqv, isTup, isStr, init_run, O, l0, l1, l2, l5, frz, idxD, at_, atI, ixN, len_tup, atomD, biD])
  have dl : F__law_due_lengths.run [.fr (.tup [.str "load", b, c, w])] = some (.fr (.tup [.int 2, .int 3]), [some (.fr (.tup [.str "load", b, c, w]))]) := run_eq rfl (by
    simp [b__law_due_lengths, E.pu, Es.pu, Ar.pu, Oe.pu, It.pu, cmpD, ofS_beq, ofS_inj, eqD_tnil, eqD_one, inD, D.plain, D.plains, D.py, PyData.eqv, isTup, isStr, init_run, O, l0, l1, l2, l5, frz, idxD, at_, atI, ixN, len_tup, atomD])
  refine ⟨by decide, ?_, ?_, by decide +kernel, ⟨_, rfl, rfl, go_CodeRow (by decide) _⟩, ⟨_, _, rfl, rfl, wo_Row (by decide) _, by simp⟩, ⟨_, rfl, rfl, as_Aim (by decide) _ _⟩, ⟨_, rfl, rfl, le_Aim (by decide) _⟩, row, dn, dl⟩
  · show D.plains 58 [.str "load", b, c, w] = true
    simp [D.plains, D.plain, plain_box hb 58, plain_box hc 58, plain_word hw 58]
  · show D.plains 58 [w] = true
    simp [D.plains, plain_word hw 58]
theorem kd_jumpby {b : D} (gb : G0 b) (hb : isBox b = true) {w : D} (gw : G0 w) (hw : isWord w = true) : Kd (.tup [.str "jumpby", b, w]) 13 [w] [.int 2, .int 3] false := by
  have big := big
  have l0 : (0 : Nat) ≤ sizeLine := by omega
  have l1 : 1 ≤ sizeLine := by omega
  have l2 : 2 ≤ sizeLine := by omega
  have l3 : 3 ≤ sizeLine := by omega
  have l5 : 5 ≤ sizeLine := by omega
  have l9 : 9 ≤ sizeLine := by omega
  have eb := box_run b gb
  rw [hb] at eb
  have ew := word_run w gw
  rw [hw] at ew
  have gg : ∀ d ∈ [b, w], G1 d := fun d hd => by
    simp only [List.mem_cons, List.not_mem_nil, or_false] at hd
    rcases hd with rfl | rfl
    · exact ⟨gb, fun ds z => by subst z; cases hb⟩
    · exact ⟨gw, fun ds z => by subst z; cases hw⟩
  have ac := aim_cond "jumpby" [b, w] (by decide +kernel) gg (by simp)
  have inner : F_with_aim.run [.fr (.tup [.str "jumpby", b, w])] = some (.ow (.obj 13 [(.tup [.str "jumpby", b, w])]), [some (.fr (.tup [.str "jumpby", b, w]))]) := by
    refine run_eq rfl ?_
    show WPt (evS b_with_aim [some (.fr (.tup [.str "jumpby", b, w])), none]) _ _
    simp only [b_with_aim, WP_seq, WP_ife]
    rw [ac]
    simp [E.pu, Es.pu, Ar.pu, Oe.pu, It.pu, cmpD, ofS_beq, ofS_inj, eqD_tnil, eqD_one, inD, D.plain, D.plains, D.py, PyData.eqv, isTup, isStr, init_run, O, l0, l1, l2, l5, frz, idxD, at_, atI, ixN, len_tup, atomD, hb, hw]
  have row : F_row_of.run [.fr (.tup [.str "jumpby", b, w])] = some (.ow (.obj 13 [(.tup [.str "jumpby", b, w])]), [some (.fr (.tup [.str "jumpby", b, w]))]) := run_eq rfl (by
    have it : isD .tuple (.tup [.str "jumpby", b, w]) = some true := rfl
    have is : isD .str (.str "jumpby") = some true := rfl
    simp [b_row_of, E.pu, Es.pu, Ar.pu, Oe.pu, It.pu, cmpD, ofS_beq, ofS_inj, eqD_tnil, eqD_one, inD, D.plain, D.plains, D.py, PyData.eqv, isTup, isStr, init_run, O, l0, l1, l2, l5, frz, idxD, at_, atI, ixN, len_tup, atomD, it, is, inner])
  have dn : F__law_due_names.run [.fr (.tup [.str "jumpby", b, w])] = some (.ow (.lst [w]), [some (.fr (.tup [.str "jumpby", b, w]))]) := run_eq rfl (by
    simp [b__law_due_names, E.pu, Es.pu, Ar.pu, Oe.pu, It.pu, cmpD, ofS_beq, ofS_inj, eqD_tnil, eqD_one, inD, D.plain, D.plains, D.py, PyData.eqv, isTup, isStr, init_run, O, l0, l1, l2, l5, frz, idxD, at_, atI, ixN, len_tup, atomD, biD])
  have dl : F__law_due_lengths.run [.fr (.tup [.str "jumpby", b, w])] = some (.fr (.tup [.int 2, .int 3]), [some (.fr (.tup [.str "jumpby", b, w]))]) := run_eq rfl (by
    simp [b__law_due_lengths, E.pu, Es.pu, Ar.pu, Oe.pu, It.pu, cmpD, ofS_beq, ofS_inj, eqD_tnil, eqD_one, inD, D.plain, D.plains, D.py, PyData.eqv, isTup, isStr, init_run, O, l0, l1, l2, l5, frz, idxD, at_, atI, ixN, len_tup, atomD])
  refine ⟨by decide, ?_, ?_, by decide +kernel, ⟨_, rfl, rfl, go_JumpByRow (by decide) _⟩, ⟨_, _, rfl, rfl, wo_Row (by decide) _, by simp⟩, ⟨_, rfl, rfl, as_Aim (by decide) _ _⟩, ⟨_, rfl, rfl, le_Aim (by decide) _⟩, row, dn, dl⟩
  · show D.plains 58 [.str "jumpby", b, w] = true
    simp [D.plains, D.plain, plain_box hb 58, plain_word hw 58]
  · show D.plains 58 [w] = true
    simp [D.plains, plain_word hw 58]
theorem kd_alike {b : D} (gb : G0 b) (hb : isBox b = true) {w : D} (gw : G0 w) (hw : isWord w = true) {v : D} (gv : G0 v) (hv : isWord v = true) : Kd (.tup [.str "alike", b, w, v]) 14 [w, v] [.int 5] true := by
  have big := big
  have l0 : (0 : Nat) ≤ sizeLine := by omega
  have l1 : 1 ≤ sizeLine := by omega
  have l2 : 2 ≤ sizeLine := by omega
  have l3 : 3 ≤ sizeLine := by omega
  have l5 : 5 ≤ sizeLine := by omega
  have l9 : 9 ≤ sizeLine := by omega
  have eb := box_run b gb
  rw [hb] at eb
  have ew := word_run w gw
  rw [hw] at ew
  have ev := word_run v gv
  rw [hv] at ev
  have row : F_row_of.run [.fr (.tup [.str "alike", b, w, v])] = some (.ow (.obj 14 [(.tup [.str "alike", b, w, v])]), [some (.fr (.tup [.str "alike", b, w, v]))]) := run_eq rfl (by
    have it : isD .tuple (.tup [.str "alike", b, w, v]) = some true := rfl
    have is : isD .str (.str "alike") = some true := rfl
    simp [b_row_of, E.pu, Es.pu, Ar.pu, Oe.pu, It.pu, cmpD, ofS_beq, ofS_inj, eqD_tnil, eqD_one, inD, D.plain, D.plains, D.py, PyData.eqv, isTup, isStr, init_run, O, l0, l1, l2, l5, frz, idxD, at_, atI, ixN, len_tup, atomD, it, is, eb, ew, ev])
  have dn : F__law_due_names.run [.fr (.tup [.str "alike", b, w, v])] = some (.ow (.lst [w, v]), [some (.fr (.tup [.str "alike", b, w, v]))]) := run_eq rfl (by
    simp [b__law_due_names, E.pu, Es.pu, Ar.pu, Oe.pu, It.pu, cmpD, ofS_beq, ofS_inj, eqD_tnil, eqD_one, inD, D.plain, D.plains, D.py, PyData.eqv, isTup, isStr, init_run, O, l0, l1, l2, l5, frz, idxD, at_, atI, ixN, len_tup, atomD, biD])
  have dl : F__law_due_lengths.run [.fr (.tup [.str "alike", b, w, v])] = some (.fr (.tup [.int 5]), [some (.fr (.tup [.str "alike", b, w, v]))]) := run_eq rfl (by
    simp [b__law_due_lengths, E.pu, Es.pu, Ar.pu, Oe.pu, It.pu, cmpD, ofS_beq, ofS_inj, eqD_tnil, eqD_one, inD, D.plain, D.plains, D.py, PyData.eqv, isTup, isStr, init_run, O, l0, l1, l2, l5, frz, idxD, at_, atI, ixN, len_tup, atomD])
  refine ⟨by decide, ?_, ?_, by decide +kernel, ⟨_, rfl, rfl, go_CodeRow (by decide) _⟩, ⟨_, _, rfl, rfl, wo_Row (by decide) _, by simp⟩, ⟨_, rfl, rfl, as_Alike (by decide) _ _ _ _⟩, ⟨_, rfl, rfl, le_Alike (by decide) _⟩, row, dn, dl⟩
  · show D.plains 58 [.str "alike", b, w, v] = true
    simp [D.plains, D.plain, plain_box hb 58, plain_word hw 58, plain_word hv 58]
  · show D.plains 58 [w, v] = true
    simp [D.plains, plain_word hw 58, plain_word hv 58]
end FL
namespace FL
open PySem L2 FJ
theorem all_plain {ds : List D} (h : ∀ e ∈ ds, isPlain e = true) : D.plain 59 (.lst ds) = true := by
  show D.plains 58 ds = true
  exact plains_all _ _ fun d hd => plain_int (h d hd) 58
theorem all_word {ds : List D} (h : ∀ e ∈ ds, isWord e = true) : D.plain 59 (.lst ds) = true := by
  show D.plains 58 ds = true
  exact plains_all _ _ fun d hd => plain_word (h d hd) 58
theorem all_plain58 {ds : List D} (h : ∀ e ∈ ds, isPlain e = true) : D.plain 58 (.lst ds) = true := by
  show D.plains 57 ds = true
  exact plains_all _ _ fun d hd => plain_int (h d hd) 57
theorem all_word58 {ds : List D} (h : ∀ e ∈ ds, isWord e = true) : D.plain 58 (.lst ds) = true := by
  show D.plains 57 ds = true
  exact plains_all _ _ fun d hd => plain_word (h d hd) 57
theorem list_numbers {ds : List D} (h0 : ∀ e ∈ ds, G0 e) (hp : ∀ e ∈ ds, isPlain e = true) (n1 : 1 ≤ ds.length) (n2 : ds.length ≤ 60) {x : T} (hx : x = .fr (.tup [.str "numbers", .lst ds]) ∨ x = .nt [.fr (.str "numbers"), .ow (.lst ds)]) :
    F_row_of.run [x] = some (.ow (.obj 18 [(.tup [.str "numbers", .lst ds])]), [some x]) := by
  have big := big
  have l0 : (0 : Nat) ≤ sizeLine := by omega
  have l1 : 1 ≤ sizeLine := by omega
  have l2 : 2 ≤ sizeLine := by omega
  have l5 : 5 ≤ sizeLine := by omega
  obtain ⟨m, hm⟩ : ∃ m : Int, m = ds.length := ⟨_, rfl⟩
  have ln : biD .len [.lst ds] = some (.fr (.int m)) := by rw [hm]; rfl
  have bl : biD .list [.lst ds] = some (.ow (.lst ds)) := rfl
  have m1 : 1 ≤ m := by omega
  have m2 : m ≤ 60 := by omega
  have it : isD .tuple (.tup [.str "numbers", .lst ds]) = some true := rfl
  have is : isD .str (.str "numbers") = some true := rfl
  have il : isD .list (.lst ds) = some true := rfl
  have ha := all_bls (p := isPlain) ds
  rw [List.all_eq_true.mpr hp] at ha
  have hc := fun (r0 : FJ.Env) (hi : evi (.lstf (.sub (.var 0) 1)) r0 = .ok ds none [some (.fr (.tup [.str "numbers", .lst ds])), none, none]) => all_comp (f := F_is_plain) (p := isPlain) (i := 1) (it := .lstf (.sub (.var 0) 1)) (r := [some (.fr (.tup [.str "numbers", .lst ds])), none, none]) (r0 := r0) (ds := ds) (fun e he => plain_run e (h0 e he)) rfl hi rfl (.inl rfl) (by omega)
  rcases hx with rfl | rfl
  · have hc := hc [some (.fr (.tup [.str "numbers", .lst ds])), none, none] (by simp [evi, subT, subO, R.use, idxD, at_, atI, ixN, seqD])
    have inner : F_with_list.run [.fr (.tup [.str "numbers", .lst ds])] = some (.ow (.obj 18 [(.tup [.str "numbers", .lst ds])]), [some (.fr (.tup [.str "numbers", .lst ds]))]) := run_eq rfl (by
      simp [b_with_list, E.pu, Es.pu, Ar.pu, Oe.pu, It.pu, cmpD, ofS_beq, ofS_inj, eqD_tnil, eqD_one, inD, D.plain, D.plains, D.py, PyData.eqv, isTup, isStr, init_run, l0, l1, l2, l5, frz, idxD, at_, atI, ixN, len_tup, atomD, ln, bl, m1, m2, it, is, il, ha, hc])
    exact run_eq rfl (by simp [b_row_of, E.pu, Es.pu, Ar.pu, Oe.pu, It.pu, cmpD, ofS_beq, ofS_inj, eqD_tnil, eqD_one, inD, D.plain, D.plains, D.py, PyData.eqv, isTup, isStr, init_run, l0, l1, l2, l5, frz, idxD, at_, atI, ixN, len_tup, atomD, it, is, inner])
  · have hc := hc [some (.nt [.fr (.str "numbers"), .ow (.lst ds)]), none, none] (by simp [evi, subT, subO, R.use, idxD, at_, atI, ixN, seqD, frz])
    have inner : F_with_list.run [.nt [.fr (.str "numbers"), .ow (.lst ds)]] = some (.ow (.obj 18 [(.tup [.str "numbers", .lst ds])]), [some (.nt [.fr (.str "numbers"), .ow (.lst ds)])]) := run_eq rfl (by
      simp [b_with_list, E.pu, Es.pu, Ar.pu, Oe.pu, It.pu, cmpD, ofS_beq, ofS_inj, eqD_tnil, eqD_one, inD, D.plain, D.plains, D.py, PyData.eqv, isTup, isStr, init_run, l0, l1, l2, l5, frz, idxD, at_, atI, ixN, len_tup, atomD, ln, bl, m1, m2, it, is, il, ha, hc])
    exact run_eq rfl (by simp [b_row_of, E.pu, Es.pu, Ar.pu, Oe.pu, It.pu, cmpD, ofS_beq, ofS_inj, eqD_tnil, eqD_one, inD, D.plain, D.plains, D.py, PyData.eqv, isTup, isStr, init_run, l0, l1, l2, l5, frz, idxD, at_, atI, ixN, len_tup, atomD, it, is, inner])
theorem kd_numbers {ds : List D} (h0 : ∀ e ∈ ds, G0 e) (hp : ∀ e ∈ ds, isPlain e = true) (n1 : 1 ≤ ds.length) (n2 : ds.length ≤ 60) {m : Int} (hm : m = ds.length) : Kd (.tup [.str "numbers", .lst ds]) 18 [] [.int (2 + 4 * m)] false := by
  have big := big
  have l0 : (0 : Nat) ≤ sizeLine := by omega
  have l1 : 1 ≤ sizeLine := by omega
  have l2 : 2 ≤ sizeLine := by omega
  have l5 : 5 ≤ sizeLine := by omega
  have ln : biD .len [.lst ds] = some (.fr (.int m)) := by rw [hm]; rfl
  have bl : biD .list [.lst ds] = some (.ow (.lst ds)) := rfl
  have dn : F__law_due_names.run [.fr (.tup [.str "numbers", .lst ds])] = some (.ow (.lst []), [some (.fr (.tup [.str "numbers", .lst ds]))]) := run_eq rfl (by
    simp [b__law_due_names, E.pu, Es.pu, Ar.pu, Oe.pu, It.pu, cmpD, ofS_beq, ofS_inj, eqD_tnil, eqD_one, inD, D.plain, D.plains, D.py, PyData.eqv, isTup, isStr, init_run, l0, l1, l2, l5, frz, idxD, at_, atI, ixN, len_tup, atomD, bl])
  have dl : F__law_due_lengths.run [.fr (.tup [.str "numbers", .lst ds])] = some (.fr (.tup [.int (2 + 4 * m)]), [some (.fr (.tup [.str "numbers", .lst ds]))]) := run_eq rfl (by
    simp [b__law_due_lengths, E.pu, Es.pu, Ar.pu, Oe.pu, It.pu, cmpD, ofS_beq, ofS_inj, eqD_tnil, eqD_one, inD, D.plain, D.plains, D.py, PyData.eqv, isTup, isStr, init_run, l0, l1, l2, l5, frz, idxD, at_, atI, ixN, len_tup, atomD, ln, binD, mulOk])
  refine ⟨by decide, ?_, by simp [D.plain, D.plains], by simp [D.plain, D.plains], ⟨_, rfl, rfl, go_Row (by decide) _⟩, ⟨_, _, rfl, rfl, wo_Data (by decide) _ _, by simp⟩, ⟨_, rfl, rfl, as_Row (by decide) _⟩, ⟨_, rfl, rfl, le_Numbers (by decide) _ _ hm⟩, list_numbers h0 hp n1 n2 (.inl rfl), dn, dl⟩
  show D.plains 58 [.str "numbers", .lst ds] = true
  rw [D.plains, D.plains, all_plain58 hp]
  rfl
theorem list_table {ds : List D} (h0 : ∀ e ∈ ds, G0 e) (hp : ∀ e ∈ ds, isWord e = true) (n1 : 1 ≤ ds.length) (n2 : ds.length ≤ 60) {x : T} (hx : x = .fr (.tup [.str "table", .lst ds]) ∨ x = .nt [.fr (.str "table"), .ow (.lst ds)]) :
    F_row_of.run [x] = some (.ow (.obj 19 [(.tup [.str "table", .lst ds])]), [some x]) := by
  have big := big
  have l0 : (0 : Nat) ≤ sizeLine := by omega
  have l1 : 1 ≤ sizeLine := by omega
  have l2 : 2 ≤ sizeLine := by omega
  have l5 : 5 ≤ sizeLine := by omega
  obtain ⟨m, hm⟩ : ∃ m : Int, m = ds.length := ⟨_, rfl⟩
  have ln : biD .len [.lst ds] = some (.fr (.int m)) := by rw [hm]; rfl
  have bl : biD .list [.lst ds] = some (.ow (.lst ds)) := rfl
  have m1 : 1 ≤ m := by omega
  have m2 : m ≤ 60 := by omega
  have it : isD .tuple (.tup [.str "table", .lst ds]) = some true := rfl
  have is : isD .str (.str "table") = some true := rfl
  have il : isD .list (.lst ds) = some true := rfl
  have ha := all_bls (p := isWord) ds
  rw [List.all_eq_true.mpr hp] at ha
  have hc := fun (r0 : FJ.Env) (hi : evi (.lstf (.sub (.var 0) 1)) r0 = .ok ds none [some (.fr (.tup [.str "table", .lst ds])), none, none]) => all_comp (f := F_is_word) (p := isWord) (i := 2) (it := .lstf (.sub (.var 0) 1)) (r := [some (.fr (.tup [.str "table", .lst ds])), none, none]) (r0 := r0) (ds := ds) (fun e he => word_run e (h0 e he)) rfl hi rfl (.inl rfl) (by omega)
  rcases hx with rfl | rfl
  · have hc := hc [some (.fr (.tup [.str "table", .lst ds])), none, none] (by simp [evi, subT, subO, R.use, idxD, at_, atI, ixN, seqD])
    have inner : F_with_list.run [.fr (.tup [.str "table", .lst ds])] = some (.ow (.obj 19 [(.tup [.str "table", .lst ds])]), [some (.fr (.tup [.str "table", .lst ds]))]) := run_eq rfl (by
      simp [b_with_list, E.pu, Es.pu, Ar.pu, Oe.pu, It.pu, cmpD, ofS_beq, ofS_inj, eqD_tnil, eqD_one, inD, D.plain, D.plains, D.py, PyData.eqv, isTup, isStr, init_run, l0, l1, l2, l5, frz, idxD, at_, atI, ixN, len_tup, atomD, ln, bl, m1, m2, it, is, il, ha, hc])
    exact run_eq rfl (by simp [b_row_of, E.pu, Es.pu, Ar.pu, Oe.pu, It.pu, cmpD, ofS_beq, ofS_inj, eqD_tnil, eqD_one, inD, D.plain, D.plains, D.py, PyData.eqv, isTup, isStr, init_run, l0, l1, l2, l5, frz, idxD, at_, atI, ixN, len_tup, atomD, it, is, inner])
  · have hc := hc [some (.nt [.fr (.str "table"), .ow (.lst ds)]), none, none] (by simp [evi, subT, subO, R.use, idxD, at_, atI, ixN, seqD, frz])
    have inner : F_with_list.run [.nt [.fr (.str "table"), .ow (.lst ds)]] = some (.ow (.obj 19 [(.tup [.str "table", .lst ds])]), [some (.nt [.fr (.str "table"), .ow (.lst ds)])]) := run_eq rfl (by
      simp [b_with_list, E.pu, Es.pu, Ar.pu, Oe.pu, It.pu, cmpD, ofS_beq, ofS_inj, eqD_tnil, eqD_one, inD, D.plain, D.plains, D.py, PyData.eqv, isTup, isStr, init_run, l0, l1, l2, l5, frz, idxD, at_, atI, ixN, len_tup, atomD, ln, bl, m1, m2, it, is, il, ha, hc])
    exact run_eq rfl (by simp [b_row_of, E.pu, Es.pu, Ar.pu, Oe.pu, It.pu, cmpD, ofS_beq, ofS_inj, eqD_tnil, eqD_one, inD, D.plain, D.plains, D.py, PyData.eqv, isTup, isStr, init_run, l0, l1, l2, l5, frz, idxD, at_, atI, ixN, len_tup, atomD, it, is, inner])
theorem kd_table {ds : List D} (h0 : ∀ e ∈ ds, G0 e) (hp : ∀ e ∈ ds, isWord e = true) (n1 : 1 ≤ ds.length) (n2 : ds.length ≤ 60) {m : Int} (hm : m = ds.length) : Kd (.tup [.str "table", .lst ds]) 19 ds [.int (2 + 2 * m)] false := by
  have big := big
  have l0 : (0 : Nat) ≤ sizeLine := by omega
  have l1 : 1 ≤ sizeLine := by omega
  have l2 : 2 ≤ sizeLine := by omega
  have l5 : 5 ≤ sizeLine := by omega
  have ln : biD .len [.lst ds] = some (.fr (.int m)) := by rw [hm]; rfl
  have bl : biD .list [.lst ds] = some (.ow (.lst ds)) := rfl
  have dn : F__law_due_names.run [.fr (.tup [.str "table", .lst ds])] = some (.ow (.lst ds), [some (.fr (.tup [.str "table", .lst ds]))]) := run_eq rfl (by
    simp [b__law_due_names, E.pu, Es.pu, Ar.pu, Oe.pu, It.pu, cmpD, ofS_beq, ofS_inj, eqD_tnil, eqD_one, inD, D.plain, D.plains, D.py, PyData.eqv, isTup, isStr, init_run, l0, l1, l2, l5, frz, idxD, at_, atI, ixN, len_tup, atomD, bl])
  have dl : F__law_due_lengths.run [.fr (.tup [.str "table", .lst ds])] = some (.fr (.tup [.int (2 + 2 * m)]), [some (.fr (.tup [.str "table", .lst ds]))]) := run_eq rfl (by
    simp [b__law_due_lengths, E.pu, Es.pu, Ar.pu, Oe.pu, It.pu, cmpD, ofS_beq, ofS_inj, eqD_tnil, eqD_one, inD, D.plain, D.plains, D.py, PyData.eqv, isTup, isStr, init_run, l0, l1, l2, l5, frz, idxD, at_, atI, ixN, len_tup, atomD, ln, binD, mulOk])
  refine ⟨by decide, ?_, all_word hp, by simp [D.plain, D.plains], ⟨_, rfl, rfl, go_Row (by decide) _⟩, ⟨_, _, rfl, rfl, wo_Data (by decide) _ _, by simp⟩, ⟨_, rfl, rfl, as_Table (by decide) _ _⟩, ⟨_, rfl, rfl, le_Table (by decide) _ _ hm⟩, list_table h0 hp n1 n2 (.inl rfl), dn, dl⟩
  show D.plains 58 [.str "table", .lst ds] = true
  rw [D.plains, D.plains, all_word58 hp]
  rfl
theorem asked_run {told : D} {c : Nat} {names lens : List D} {go : Bool} (K : Kd told c names lens go) : F_asked_by.run [.fr told] = some (.ow (.lst names), [some (.fr told)]) := by
  obtain ⟨F, hm, hio, hr⟩ := K.a
  exact run_eq rfl (by simp [b_asked_by, K.row, hm, hio, hr])
theorem lengths_run {told : D} {c : Nat} {names lens : List D} {go : Bool} (K : Kd told c names lens go) : F_lengths.run [.fr told] = some (.fr (.tup lens), [some (.fr told)]) := by
  obtain ⟨F, hm, hio, hr⟩ := K.l
  exact run_eq rfl (by simp [b_lengths, K.row, hm, hio, hr])
theorem app_x {i : Nat} {r : FJ.Env} {ds : List D} {z : Str} (h : r[i]? = some (some (.ow (.lst ds)))) (hl : ds.length < sizeLine) : evS (.app i (.cst (.str z))) r = .nx (r.set i (some (.ow (.lst (ds ++ [.str z]))))) := by
  simp [evS_app, h, hl]
theorem plains_up' (n : Nat) : ∀ (ds : List D), (∀ d, D.plain n d = true → D.plain (n + 1) d = true) → D.plains n ds = true → D.plains (n + 1) ds = true
  | [], _, _ => by simp [D.plains]
  | d :: ds, hp, h => by
    simp only [D.plains, Bool.and_eq_true] at h ⊢
    exact ⟨hp d h.1, plains_up' n ds hp h.2⟩
theorem plain_up : ∀ (n : Nat) (d : D), D.plain n d = true → D.plain (n + 1) d = true
  | n, .tup xs, h => by
    cases n with
    | zero => cases h
    | succ n => exact plains_up' n xs (fun d hd => plain_up n d hd) h
  | n, .lst xs, h => by
    cases n with
    | zero => cases h
    | succ n => exact plains_up' n xs (fun d hd => plain_up n d hd) h
  | 0, .non, h => rfl | _ + 1, .non, h => rfl
  | 0, .bl _, h => rfl | _ + 1, .bl _, h => rfl
  | 0, .int _, h => rfl | _ + 1, .int _, h => rfl
  | 0, .str _, h => rfl | _ + 1, .str _, h => rfl
  | 0, .dK _ _, h => by cases h
  | _ + 1, .dK _ _, h => by cases h
  | 0, .dT _ _, h => by cases h
  | _ + 1, .dT _ _, h => by cases h
  | 0, .obj _ _, h => by cases h
  | _ + 1, .obj _ _, h => by cases h
  | 0, .scr _, h => by cases h
  | _ + 1, .scr _, h => by cases h
  | 0, .tab _ _ _, h => by cases h
  | _ + 1, .tab _ _ _, h => by cases h
theorem plains_up (n : Nat) (ds : List D) (h : D.plains n ds = true) : D.plains (n + 1) ds = true := plains_up' n ds (fun d hd => plain_up n d hd) h
theorem tells_run {told : D} {c : Nat} {names lens : List D} {go : Bool} (K : Kd told c names lens go) {k : D} {ps : List D} (ht : told = .tup (k :: ps)) (hn : names.length ≤ 100)
    (hin : inD k (.tup [.str "set", .str "add", .str "take", .str "say", .str "ask", .str "jumpif", .str "call", .str "load", .str "alike"]) = some go) : F__law_tells.run [.fr (.obj c [told]), .fr told] = some (.fr (.bl true), [some (.fr (.obj c [told])), some (.fr told)]) := by
  have big := big
  have l9 : 9 ≤ sizeLine := by omega
  obtain ⟨F1, m1, i1, r1⟩ := K.g
  obtain ⟨F2, t, m2, i2, r2, e2⟩ := K.w
  obtain ⟨F3, m3, i3, r3⟩ := K.a
  obtain ⟨F4, m4, i4, r4⟩ := K.l
  have a1 := asked_run K
  have a2 := lengths_run K
  have dn := K.dn
  have dl := K.dl
  have q1 := eqD_refl told (by
    have := K.pl
    subst ht
    show D.plains 59 (k :: ps) = true
    have h2 : D.plains 58 (k :: ps) = true := this
    exact plains_up _ _ h2)
  have q2 := eqD_refl (.lst names) (by
    have := K.pn
    show D.plains 59 names = true
    exact plains_up _ _ this)
  have q3 := eqD_refl (.tup lens) (by
    have := K.po
    show D.plains 59 lens = true
    exact plains_up _ _ this)
  have it : isD .tuple told = some true := by rw [ht]; rfl
  have it2 : isD .tuple (.tup lens) = some true := rfl
  have il : isD .list (.lst names) = some true := rfl
  have ib : isD .bool (.bl go) = some true := rfl
  have ix : idxD told (.int 0) = some k := by rw [ht]; exact idx0 k ps
  have hz : names.length < sizeLine := by omega
  refine run_eq rfl ?_
  simp only [b__law_tells, WP_seq]
  simp [E.pu, Es.pu, Ar.pu, cmpD, m1, i1, r1, m2, i2, r2, e2, it, it2, il, ib, q1, q2, q3, ix, hin, l9, m3, i3, r3, m4, i4, r4, a1, a2, dn, dl]
  rw [app_x (ds := names) rfl hz]
  simp [E.pu, Es.pu, Ar.pu, cmpD, m3, i3, r3, q2, q3, a2, dn, dl]
end FL
namespace FL
open PySem L2 FJ
theorem evS_clrP {i k : Nat} {r : FJ.Env} {ts : List T} {ds : List D} (h : r[i]? = some (some (.nt ts))) (h2 : ts[k]? = some (.ow (.lst ds))) : evS (.clrP i k) r = .nx (r.set i (some (.nt (ts.set k (.ow (.lst [])))))) := by
  simp only [evS, h, h2]
theorem evS_appT {e : E} {k : Nat} {d : D} {r r1 : FJ.Env} {ts : List T} {ds : List D} (h : ev e r = .ok (.v (.nt ts)) r1) (h2 : ts[k]? = some (.ow (.lst ds))) (hl : ds.length < sizeLine) : evS (.appT e k d) r = .nx r1 := by
  simp only [evS, h, h2, hl, if_true]
theorem isC {c n : Nat} {s : List Nat} {ds : List D} (h : c < n) : isD (.cls n s) (.obj c ds) = some (s.contains c) := by simp only [isD, h, if_true]
theorem eqD_bls (a b c : Bool) : eqD (.lst [.bl a, .bl b, .bl c]) (.lst [.bl a, .bl b, .bl c]) = some true := eqD_refl _ (by simp [D.plain, D.plains])
theorem kinds_run {c : Nat} (h : c < 20) (told : D) : F__law_kinds.run [.fr (.obj c [told])] = some (.ow (.lst [.bl ([1].contains c), .bl ([2, 3, 4, 5, 6, 7, 8, 9, 10, 11, 12, 13, 14, 15, 16].contains c), .bl ([17, 18, 19].contains c)]), [some (.fr (.obj c [told]))]) := by
  have big := big
  have l3 : 3 ≤ sizeLine := by omega
  have k1 := isC (s := [1]) (ds := [told]) h
  have k2 := isC (s := [2, 3, 4, 5, 6, 7, 8, 9, 10, 11, 12, 13, 14, 15, 16]) (ds := [told]) h
  have k3 := isC (s := [17, 18, 19]) (ds := [told]) h
  refine run_eq rfl ?_
  generalize hb1 : [1].contains c = b1 at *
  generalize hb2 : [2, 3, 4, 5, 6, 7, 8, 9, 10, 11, 12, 13, 14, 15, 16].contains c = b2 at *
  generalize hb3 : [17, 18, 19].contains c = b3 at *
  simp [b__law_kinds, k1, k2, k3, l3]
structure Fit (k : D) (c : Nat) (go b1 b2 b3 : Bool) : Prop where
  few : c < 20
  i0 : inD k (.tup [.str "set", .str "add", .str "take", .str "say", .str "ask", .str "jumpif", .str "call", .str "load", .str "alike"]) = some go
  i1 : eqD k (.str "mark") = some b1
  i2 : inD k (.tup [.str "mark", .str "numbers", .str "table"]) = some (!b2)
  i3 : inD k (.tup [.str "numbers", .str "table"]) = some b3
  c1 : [1].contains c = b1
  c2 : [2, 3, 4, 5, 6, 7, 8, 9, 10, 11, 12, 13, 14, 15, 16].contains c = b2
  c3 : [17, 18, 19].contains c = b3
  c4 : [0, 1, 2, 3, 4, 5, 6, 7, 8, 9, 10, 11, 12, 13, 14, 15, 16, 17, 18, 19].contains c = true
theorem right_plain {told : D} {c : Nat} {names lens : List D} {go b1 b2 : Bool} (K : Kd told c names lens go) {k : D} {ps : List D} (ht : told = .tup (k :: ps)) (hn : names.length ≤ 100) (f : Fit k c go b1 b2 false) :
    F__law_right.run [.fr told] = some (.fr (.bl true), [some (.fr told)]) := by
  have big := big
  have l2 : 2 ≤ sizeLine := by omega
  have l3 : 3 ≤ sizeLine := by omega
  have tr := tells_run K ht hn f.i0
  have kr := kinds_run f.few told
  rw [f.c1, f.c2, f.c3] at kr
  have q := eqD_bls b1 b2 false
  have q1 := eqD_refl told (by
    have := K.pl
    subst ht
    show D.plains 59 (k :: ps) = true
    have h2 : D.plains 58 (k :: ps) = true := this
    exact plains_up _ _ h2)
  have ix : idxD told (.int 0) = some k := by rw [ht]; exact idx0 k ps
  have ia := isC (s := [0, 1, 2, 3, 4, 5, 6, 7, 8, 9, 10, 11, 12, 13, 14, 15, 16, 17, 18, 19]) (ds := [told]) f.few
  rw [f.c4] at ia
  have row := K.row
  have i1 := f.i1
  have i2 := f.i2
  have i3 := f.i3
  refine run_eq rfl ?_
  simp [b__law_right, E.pu, Es.pu, Ar.pu, cmpD, ix, i1, i2, i3, ia, row, kr, q, q1, tr, l2, l3, frz, atomD]
theorem right_data {k : Str} {ds : List D} {c : Nat} {names lens : List D} {b1 b2 : Bool} (K : Kd (.tup [.str k, .lst ds]) c names lens false) (hn : names.length ≤ 100) (f : Fit (.str k) c false b1 b2 true) (hm : mt_words.lookup c = some F_DataRow__words) (hd : ds.length ≤ 100)
    (row : F_row_of.run [.nt [.fr (.str k), .ow (.lst ds)]] = some (.ow (.obj c [.tup [.str k, .lst ds]]), [some (.nt [.fr (.str k), .ow (.lst ds)])])) :
    F__law_right.run [.fr (.tup [.str k, .lst ds])] = some (.fr (.bl true), [some (.fr (.tup [.str k, .lst ds]))]) := by
  have big := big
  have l2 : 2 ≤ sizeLine := by omega
  have l3 : 3 ≤ sizeLine := by omega
  have tr := tells_run K rfl hn f.i0
  have kr := kinds_run f.few (.tup [.str k, .lst ds])
  rw [f.c1, f.c2, f.c3] at kr
  have q := eqD_bls b1 b2 true
  have q1 := eqD_refl (.tup [.str k, .lst ds]) (by
    have := K.pl
    show D.plains 59 [.str k, .lst ds] = true
    have h2 : D.plains 58 [.str k, .lst ds] = true := this
    exact plains_up _ _ h2)
  have ix : idxD (.tup [.str k, .lst ds]) (.int 0) = some (.str k) := rfl
  have ix1 : idxD (.tup [.str k, .lst ds]) (.int 1) = some (.lst ds) := rfl
  have ia := isC (s := [0, 1, 2, 3, 4, 5, 6, 7, 8, 9, 10, 11, 12, 13, 14, 15, 16, 17, 18, 19]) (ds := [.tup [.str k, .lst ds]]) f.few
  rw [f.c4] at ia
  have bl : biD .list [.lst ds] = some (.ow (.lst ds)) := rfl
  have wd := wo_Data f.few k ds
  have hio : F_DataRow__words.io = [false] := rfl
  have i1 := f.i1
  have i2 := f.i2
  have i3 := f.i3
  have hz : ds.length < sizeLine := by omega
  refine run_eq rfl ?_
  simp [b__law_right, E.pu, Es.pu, Ar.pu, cmpD, ix, ix1, i1, i2, i3, ia, bl, row, kr, q, q1, tr, l2, l3, frz, atomD]
  rw [evS_clrP (ts := [.fr (.str k), .ow (.lst ds)]) (ds := ds) rfl rfl]
  simp only [WP_nx]
  rw [evS_appT (ts := [.fr (.str k), .ow (.lst ds)]) (ds := ds) (r1 := [some (.fr (.tup [.str k, .lst ds])), some (.nt [.fr (.str k), .ow (.lst [])]), some (.fr (.obj c [.tup [.str k, .lst ds]])), some (.ow (.lst [.bl b1, .bl b2, .bl true]))]) (by simp [hm, wd, hio, frz]) rfl hz]
  simp [E.pu, Ar.pu, tr]
theorem fit_mark : Fit (.str "mark") 1 false true false false := ⟨by decide, by simp [inD, D.plain, D.plains, D.py, PyData.eqv, ofS_beq], by simp [ofS_beq], by simp [inD, D.plain, D.plains, D.py, PyData.eqv, ofS_beq], by simp [inD, D.plain, D.plains, D.py, PyData.eqv, ofS_beq], rfl, rfl, rfl, rfl⟩
theorem fit_set : Fit (.str "set") 3 true false true false := ⟨by decide, by simp [inD, D.plain, D.plains, D.py, PyData.eqv, ofS_beq], by simp [ofS_beq], by simp [inD, D.plain, D.plains, D.py, PyData.eqv, ofS_beq], by simp [inD, D.plain, D.plains, D.py, PyData.eqv, ofS_beq], rfl, rfl, rfl, rfl⟩
theorem fit_add : Fit (.str "add") 4 true false true false := ⟨by decide, by simp [inD, D.plain, D.plains, D.py, PyData.eqv, ofS_beq], by simp [ofS_beq], by simp [inD, D.plain, D.plains, D.py, PyData.eqv, ofS_beq], by simp [inD, D.plain, D.plains, D.py, PyData.eqv, ofS_beq], rfl, rfl, rfl, rfl⟩
theorem fit_take : Fit (.str "take") 5 true false true false := ⟨by decide, by simp [inD, D.plain, D.plains, D.py, PyData.eqv, ofS_beq], by simp [ofS_beq], by simp [inD, D.plain, D.plains, D.py, PyData.eqv, ofS_beq], by simp [inD, D.plain, D.plains, D.py, PyData.eqv, ofS_beq], rfl, rfl, rfl, rfl⟩
theorem fit_say : Fit (.str "say") 6 true false true false := ⟨by decide, by simp [inD, D.plain, D.plains, D.py, PyData.eqv, ofS_beq], by simp [ofS_beq], by simp [inD, D.plain, D.plains, D.py, PyData.eqv, ofS_beq], by simp [inD, D.plain, D.plains, D.py, PyData.eqv, ofS_beq], rfl, rfl, rfl, rfl⟩
theorem fit_ask : Fit (.str "ask") 7 true false true false := ⟨by decide, by simp [inD, D.plain, D.plains, D.py, PyData.eqv, ofS_beq], by simp [ofS_beq], by simp [inD, D.plain, D.plains, D.py, PyData.eqv, ofS_beq], by simp [inD, D.plain, D.plains, D.py, PyData.eqv, ofS_beq], rfl, rfl, rfl, rfl⟩
theorem fit_jump : Fit (.str "jump") 9 false false true false := ⟨by decide, by simp [inD, D.plain, D.plains, D.py, PyData.eqv, ofS_beq], by simp [ofS_beq], by simp [inD, D.plain, D.plains, D.py, PyData.eqv, ofS_beq], by simp [inD, D.plain, D.plains, D.py, PyData.eqv, ofS_beq], rfl, rfl, rfl, rfl⟩
theorem fit_jumpif : Fit (.str "jumpif") 10 true false true false := ⟨by decide, by simp [inD, D.plain, D.plains, D.py, PyData.eqv, ofS_beq], by simp [ofS_beq], by simp [inD, D.plain, D.plains, D.py, PyData.eqv, ofS_beq], by simp [inD, D.plain, D.plains, D.py, PyData.eqv, ofS_beq], rfl, rfl, rfl, rfl⟩
theorem fit_call : Fit (.str "call") 11 true false true false := ⟨by decide, by simp [inD, D.plain, D.plains, D.py, PyData.eqv, ofS_beq], by simp [ofS_beq], by simp [inD, D.plain, D.plains, D.py, PyData.eqv, ofS_beq], by simp [inD, D.plain, D.plains, D.py, PyData.eqv, ofS_beq], rfl, rfl, rfl, rfl⟩
theorem fit_load : Fit (.str "load") 12 true false true false := ⟨by decide, by simp [inD, D.plain, D.plains, D.py, PyData.eqv, ofS_beq], by simp [ofS_beq], by simp [inD, D.plain, D.plains, D.py, PyData.eqv, ofS_beq], by simp [inD, D.plain, D.plains, D.py, PyData.eqv, ofS_beq], rfl, rfl, rfl, rfl⟩
theorem fit_jumpby : Fit (.str "jumpby") 13 false false true false := ⟨by decide, by simp [inD, D.plain, D.plains, D.py, PyData.eqv, ofS_beq], by simp [ofS_beq], by simp [inD, D.plain, D.plains, D.py, PyData.eqv, ofS_beq], by simp [inD, D.plain, D.plains, D.py, PyData.eqv, ofS_beq], rfl, rfl, rfl, rfl⟩
theorem fit_alike : Fit (.str "alike") 14 true false true false := ⟨by decide, by simp [inD, D.plain, D.plains, D.py, PyData.eqv, ofS_beq], by simp [ofS_beq], by simp [inD, D.plain, D.plains, D.py, PyData.eqv, ofS_beq], by simp [inD, D.plain, D.plains, D.py, PyData.eqv, ofS_beq], rfl, rfl, rfl, rfl⟩
theorem fit_back : Fit (.str "back") 15 false false true false := ⟨by decide, by simp [inD, D.plain, D.plains, D.py, PyData.eqv, ofS_beq], by simp [ofS_beq], by simp [inD, D.plain, D.plains, D.py, PyData.eqv, ofS_beq], by simp [inD, D.plain, D.plains, D.py, PyData.eqv, ofS_beq], rfl, rfl, rfl, rfl⟩
theorem fit_stop : Fit (.str "stop") 16 false false true false := ⟨by decide, by simp [inD, D.plain, D.plains, D.py, PyData.eqv, ofS_beq], by simp [ofS_beq], by simp [inD, D.plain, D.plains, D.py, PyData.eqv, ofS_beq], by simp [inD, D.plain, D.plains, D.py, PyData.eqv, ofS_beq], rfl, rfl, rfl, rfl⟩
theorem fit_numbers : Fit (.str "numbers") 18 false false false true := ⟨by decide, by simp [inD, D.plain, D.plains, D.py, PyData.eqv, ofS_beq], by simp [ofS_beq], by simp [inD, D.plain, D.plains, D.py, PyData.eqv, ofS_beq], by simp [inD, D.plain, D.plains, D.py, PyData.eqv, ofS_beq], rfl, rfl, rfl, rfl⟩
theorem fit_table : Fit (.str "table") 19 false false false true := ⟨by decide, by simp [inD, D.plain, D.plains, D.py, PyData.eqv, ofS_beq], by simp [ofS_beq], by simp [inD, D.plain, D.plains, D.py, PyData.eqv, ofS_beq], by simp [inD, D.plain, D.plains, D.py, PyData.eqv, ofS_beq], rfl, rfl, rfl, rfl⟩
theorem right_mark {w : D} (gw : G0 w) (hw : isWord w = true) {t : D} (gt : G0 t) (ht : isBool t = true) : F__law_right.run [.fr (.tup [.str "mark", w, t])] = some (.fr (.bl true), [some (.fr (.tup [.str "mark", w, t]))]) := right_plain (kd_mark gw hw gt ht) rfl (by simp) fit_mark
theorem right_set {b : D} (gb : G0 b) (hb : isBox b = true) {n : D} (gn : G0 n) (hn : isPlain n = true) : F__law_right.run [.fr (.tup [.str "set", b, n])] = some (.fr (.bl true), [some (.fr (.tup [.str "set", b, n]))]) := right_plain (kd_set gb hb gn hn) rfl (by simp) fit_set
theorem right_add {b : D} (gb : G0 b) (hb : isBox b = true) {c : D} (gc : G0 c) (hc : isBox c = true) : F__law_right.run [.fr (.tup [.str "add", b, c])] = some (.fr (.bl true), [some (.fr (.tup [.str "add", b, c]))]) := right_plain (kd_add gb hb gc hc) rfl (by simp) fit_add
theorem right_take {b : D} (gb : G0 b) (hb : isBox b = true) {c : D} (gc : G0 c) (hc : isBox c = true) : F__law_right.run [.fr (.tup [.str "take", b, c])] = some (.fr (.bl true), [some (.fr (.tup [.str "take", b, c]))]) := right_plain (kd_take gb hb gc hc) rfl (by simp) fit_take
theorem right_say {b : D} (gb : G0 b) (hb : isBox b = true) : F__law_right.run [.fr (.tup [.str "say", b])] = some (.fr (.bl true), [some (.fr (.tup [.str "say", b]))]) := right_plain (kd_say gb hb) rfl (by simp) fit_say
theorem right_ask {b : D} (gb : G0 b) (hb : isBox b = true) : F__law_right.run [.fr (.tup [.str "ask", b])] = some (.fr (.bl true), [some (.fr (.tup [.str "ask", b]))]) := right_plain (kd_ask gb hb) rfl (by simp) fit_ask
theorem right_jump {w : D} (gw : G0 w) (hw : isWord w = true) : F__law_right.run [.fr (.tup [.str "jump", w])] = some (.fr (.bl true), [some (.fr (.tup [.str "jump", w]))]) := right_plain (kd_jump gw hw) rfl (by simp) fit_jump
theorem right_jumpif {b : D} (gb : G0 b) (hb : isBox b = true) {w : D} (gw : G0 w) (hw : isWord w = true) : F__law_right.run [.fr (.tup [.str "jumpif", b, w])] = some (.fr (.bl true), [some (.fr (.tup [.str "jumpif", b, w]))]) := right_plain (kd_jumpif gb hb gw hw) rfl (by simp) fit_jumpif
theorem right_call {w : D} (gw : G0 w) (hw : isWord w = true) : F__law_right.run [.fr (.tup [.str "call", w])] = some (.fr (.bl true), [some (.fr (.tup [.str "call", w]))]) := right_plain (kd_call gw hw) rfl (by simp) fit_call
theorem right_back : F__law_right.run [.fr (.tup [.str "back"])] = some (.fr (.bl true), [some (.fr (.tup [.str "back"]))]) := right_plain (kd_back) rfl (by simp) fit_back
theorem right_stop : F__law_right.run [.fr (.tup [.str "stop"])] = some (.fr (.bl true), [some (.fr (.tup [.str "stop"]))]) := right_plain (kd_stop) rfl (by simp) fit_stop
theorem right_load {b : D} (gb : G0 b) (hb : isBox b = true) {c : D} (gc : G0 c) (hc : isBox c = true) {w : D} (gw : G0 w) (hw : isWord w = true) : F__law_right.run [.fr (.tup [.str "load", b, c, w])] = some (.fr (.bl true), [some (.fr (.tup [.str "load", b, c, w]))]) := right_plain (kd_load gb hb gc hc gw hw) rfl (by simp) fit_load
theorem right_jumpby {b : D} (gb : G0 b) (hb : isBox b = true) {w : D} (gw : G0 w) (hw : isWord w = true) : F__law_right.run [.fr (.tup [.str "jumpby", b, w])] = some (.fr (.bl true), [some (.fr (.tup [.str "jumpby", b, w]))]) := right_plain (kd_jumpby gb hb gw hw) rfl (by simp) fit_jumpby
theorem right_alike {b : D} (gb : G0 b) (hb : isBox b = true) {w : D} (gw : G0 w) (hw : isWord w = true) {v : D} (gv : G0 v) (hv : isWord v = true) : F__law_right.run [.fr (.tup [.str "alike", b, w, v])] = some (.fr (.bl true), [some (.fr (.tup [.str "alike", b, w, v]))]) := right_plain (kd_alike gb hb gw hw gv hv) rfl (by simp) fit_alike
theorem right_numbers {ds : List D} (h0 : ∀ e ∈ ds, G0 e) (hp : ∀ e ∈ ds, isPlain e = true) (n1 : 1 ≤ ds.length) (n2 : ds.length ≤ 60) : F__law_right.run [.fr (.tup [.str "numbers", .lst ds])] = some (.fr (.bl true), [some (.fr (.tup [.str "numbers", .lst ds]))]) :=
  right_data (kd_numbers h0 hp n1 n2 rfl) (by simp) fit_numbers rfl (by omega) (list_numbers h0 hp n1 n2 (.inr rfl))
theorem right_table {ds : List D} (h0 : ∀ e ∈ ds, G0 e) (hp : ∀ e ∈ ds, isWord e = true) (n1 : 1 ≤ ds.length) (n2 : ds.length ≤ 60) : F__law_right.run [.fr (.tup [.str "table", .lst ds])] = some (.fr (.bl true), [some (.fr (.tup [.str "table", .lst ds]))]) :=
  right_data (kd_table h0 hp n1 n2 rfl) (by omega) fit_table rfl (by omega) (list_table h0 hp n1 n2 (.inr rfl))
end FL
namespace FL
open PySem L2 FJ
theorem mixed_run (c k : Int) : ∃ m : Int, F__law_mixed.run [.fr (.int c), .fr (.int k)] = some (.fr (.int m), [some (.fr (.int c)), some (.fr (.int k))]) := by
  have h0 : ∀ x : Int, 0 ≤ x % 2147483647 ∧ x % 2147483647 < 2147483647 := fun x => ⟨Int.emod_nonneg _ (by decide), Int.emod_lt_of_pos _ (by decide)⟩
  generalize hn : (c % 2147483647 + 7919 * k + 1) * 48271 % 2147483647 = n
  have hn1 := h0 ((c % 2147483647 + 7919 * k + 1) * 48271)
  rw [hn] at hn1
  have m1 : mulOk n (n / 1009 + 69621) = true := by
    unfold mulOk
    rw [Bool.or_eq_true, decide_eq_true_eq]
    left; omega
  generalize hm : n * (n / 1009 + 69621) % 2147483647 = m
  have hm1 := h0 (n * (n / 1009 + 69621))
  rw [hm] at hm1
  have m2 : mulOk (m + 31 * k) (m / 16807 + 40692) = true := by
    unfold mulOk
    rw [Bool.or_eq_true, decide_eq_true_eq, decide_eq_true_eq]
    right; omega
  have c1 : ∀ x, mulOk x 48271 = true := fun x => by unfold mulOk; simp
  have c2 : ∀ x, mulOk 7919 x = true := fun x => by unfold mulOk; simp
  have c3 : ∀ x, mulOk 31 x = true := fun x => by unfold mulOk; simp
  have d1 : divOk 1009 = true := by decide
  have d2 : divOk 16807 = true := by decide
  refine ⟨(m + 31 * k) * (m / 16807 + 40692) % 2147483629, ?_⟩
  obtain ⟨t, rp, h1, h2, h3⟩ := run_by (n := 3) (io := [false, false]) (b := b__law_mixed) (ts := [.fr (.int c), .fr (.int k)]) (Q := fun t rp => t = .fr (.int ((m + 31 * k) * (m / 16807 + 40692) % 2147483629)) ∧ rp = [some (.fr (.int c)), some (.fr (.int k))]) rfl (by
    simp [b__law_mixed, binD, c1, c2, c3, d1, d2, hn, m1, hm, m2])
  rw [← h2, ← h3]; exact h1
theorem at_ok {α : Type} {l : List α} {v : Int} (h0 : 0 ≤ v) (h1 : v < l.length) : ∃ w ∈ l, at_ l v = some w := by
  obtain ⟨k, rfl⟩ := Int.eq_ofNat_of_zero_le h0
  have hk : k < l.length := by omega
  refine ⟨l[k], List.getElem_mem hk, ?_⟩
  have : ixN l.length (k : Int) = some k := by
    unfold ixN
    simp; omega
  show atI l k = _
  unfold atI
  rw [this]
  simp [hk]
def intL (l : List Int) : D := .lst (l.map .int)
def ID (x n : Int) (k : Nat) (r : FJ.Env) : Prop := ∃ (l : List Int) (y : Int) (x4 : Option T), r = [some (.fr (.int x)), some (.fr (.int n)), some (.ow (intL l)), some (.fr (.int y)), x4] ∧ l.length = k ∧ ∀ i ∈ l, 0 ≤ i ∧ i < 1000
theorem app_l {r : FJ.Env} {l : List Int} {i : Int} {e : E} (h : r[2]? = some (some (.ow (intL l)))) (he : ev e r = .ok (.v (.fr (.int i))) r) (hl : l.length < sizeLine) : evS (.app 2 e) r = .nx (r.set 2 (some (.ow (intL (l ++ [i]))))) := by
  have h' : r[2]? = some (some (.ow (.lst (l.map .int)))) := h
  simp [evS_app, h', he, hl, intL]
theorem draws_run (x n : Int) (n0 : 6 ≤ n) (n1 : n ≤ 70) : ∃ l : List Int, F__law_draws.run [.fr (.int x), .fr (.int n)] = some (.ow (intL l), [some (.fr (.int x)), some (.fr (.int n))]) ∧ l.length = n.toNat ∧ ∀ i ∈ l, 0 ≤ i ∧ i < 1000 := by
  have big := big
  have l0 : (0 : Nat) ≤ sizeLine := by omega
  have q2 : divOk 2 = true := by decide
  have q3 : divOk 1000 = true := by decide
  have b1 : -4611686018427387904 ≤ n := by omega
  have b2 : n < 4611686018427387904 := by omega
  obtain ⟨t, rp, g1, l, rfl, rfl, hl, hd⟩ := run_by (n := 5) (io := [false, false]) (b := b__law_draws) (ts := [.fr (.int x), .fr (.int n)])
    (Q := fun t rp => ∃ l : List Int, t = .ow (intL l) ∧ rp = [some (.fr (.int x)), some (.fr (.int n))] ∧ l.length = n.toNat ∧ ∀ i ∈ l, 0 ≤ i ∧ i < 1000) rfl (by
    simp [b__law_draws, binD, q2, l0]
    refine WP_for (ds := (List.range n.toNat).map fun (i : Nat) => D.int i) (hid := none) (r1 := [some (.fr (.int x)), some (.fr (.int n)), some (.ow (.lst [])), some (.fr (.int (x / 2))), none]) (ID x n) (by simp [evi, rngD, b1, b2]) ⟨[], _, _, rfl, rfl, by simp⟩ rfl ?_ ?_
    · rintro k d r hd ⟨l, y, x4, rfl, hl, hb⟩
      have hk : k < n.toNat := by simpa using ltOf hd
      obtain ⟨i, _, rfl⟩ := List.mem_map.mp (List.mem_of_getElem? hd)
      refine ⟨_, rfl, ?_⟩
      have mo : ∀ z : Int, 0 ≤ z % 1000 ∧ z % 1000 < 1000 := fun z => ⟨Int.emod_nonneg _ (by decide), Int.emod_lt_of_pos _ (by decide)⟩
      have next : ∀ z : Int, ∀ j ∈ l ++ [z % 1000], 0 ≤ j ∧ j < 1000 := fun z j hj => by
        rcases List.mem_append.mp hj with hj | hj
        · exact hb j hj
        · rw [List.mem_singleton] at hj; rw [hj]; exact mo z
      simp only [WP]
      by_cases hx : x % 2 = 0
      · simp [E.pu, binD, cmpD, hx]
        rw [app_l (i := y % 1000) rfl (by simp [E.pu, binD]) (by omega)]
        simp [E.pu, binD, q3]
        exact ⟨l ++ [y % 1000], _, _, rfl, by simp [hl], next y⟩
      · obtain ⟨m, hm⟩ := mixed_run y i
        simp [E.pu, binD, cmpD, hx]
        rw [app_l (i := m % 1000) rfl (by simp [E.pu, Ar.pu, binD, hm]) (by omega)]
        simp
        exact ⟨l ++ [m % 1000], _, _, rfl, by simp [hl], next m⟩
    · rintro r ⟨l, y, x4, rfl, hl, hb⟩
      simp [showE]
      exact ⟨l, rfl, by simpa using hl, hb⟩)
  exact ⟨l, g1, hl, hd⟩
/-! ### names, numbers -/
theorem abc_at (x : Int) (h0 : 0 ≤ x) (h1 : x < 26) : ∃ c, at_ abc.cps.toList x = some c ∧ sm c = true := by
  obtain ⟨n, rfl⟩ := Int.eq_ofNat_of_zero_le h0
  have hn : n < 26 := by omega
  revert hn
  have : ∀ n : Fin 26, (match at_ abc.cps.toList (n.val : Int) with | some c => sm c | none => false) = true := by decide +kernel
  intro hn
  have h := this ⟨n, hn⟩
  split at h
  · rename_i c hc; exact ⟨c, hc, h⟩
  · cases h
theorem abc_len : abc.length ≤ sizeLine := by decide +kernel
theorem rep_pair (c d n : Nat) (hc : sm c = true) (hd : sm d = true) (n1 : 1 ≤ n) (n4 : n ≤ 4) : isW (Str.rep n (⟨#[c]⟩ ++ ⟨#[d]⟩ : Str)) = true ∧ (Str.rep n (⟨#[c]⟩ ++ ⟨#[d]⟩ : Str)).length ≤ 100 := by
  have e : (Str.rep n (⟨#[c]⟩ ++ ⟨#[d]⟩ : Str)).cps.toList = (List.replicate n [c, d]).flatten := rfl
  have hl : (Str.rep n (⟨#[c]⟩ ++ ⟨#[d]⟩ : Str)).length = 2 * n := by
    show (Str.rep n (⟨#[c]⟩ ++ ⟨#[d]⟩ : Str)).cps.size = _
    rw [← Array.length_toList, e, List.length_flatten, List.map_replicate, List.sum_replicate_nat]
    simp; omega
  refine ⟨?_, by omega⟩
  unfold isW
  rw [hl, e]
  have h1 : ((List.replicate n [c, d]).flatten.all sm) = true := by
    rw [List.all_eq_true]
    intro x hx
    obtain ⟨q, hq, hx⟩ := List.mem_flatten.mp hx
    rw [(List.mem_replicate.mp hq).2] at hx
    simp only [List.mem_cons, List.not_mem_nil, or_false] at hx
    rcases hx with rfl | rfl <;> assumption
  rw [h1]
  simp; omega
theorem name_run (x : Int) (hx : 0 ≤ x) : ∃ z : Str, F__law_name.run [.fr (.int x)] = some (.fr (.str z), [some (.fr (.int x))]) ∧ isW z = true ∧ z.length ≤ 100 := by
  have big := big
  have q1 : divOk 26 = true := by decide
  have q2 : divOk 676 = true := by decide
  obtain ⟨c, h1, s1⟩ := abc_at (x % 26) (Int.emod_nonneg _ (by decide)) (Int.emod_lt_of_pos _ (by decide))
  obtain ⟨d, h2, s2⟩ := abc_at (x / 26 % 26) (Int.emod_nonneg _ (by decide)) (Int.emod_lt_of_pos _ (by decide))
  have hz : Str.length "abcdefghijklmnopqrstuvwxyz" ≤ sizeLine := abc_len
  have h1' : idxD (.str "abcdefghijklmnopqrstuvwxyz") (.int (x % 26)) = some (.str ⟨#[c]⟩) := by
    have : at_ (Str.cps "abcdefghijklmnopqrstuvwxyz").toList (x % 26) = some c := h1
    simp [idxD, hz, this]
  have h2' : idxD (.str "abcdefghijklmnopqrstuvwxyz") (.int (x / 26 % 26)) = some (.str ⟨#[d]⟩) := by
    have : at_ (Str.cps "abcdefghijklmnopqrstuvwxyz").toList (x / 26 % 26) = some d := h2
    simp [idxD, hz, this]
  obtain ⟨m, hm⟩ : ∃ m, 1 + x / 676 % 4 = m := ⟨_, rfl⟩
  have m0 : 0 ≤ x / 676 % 4 := Int.emod_nonneg _ (by decide)
  have m4 : x / 676 % 4 < 4 := Int.emod_lt_of_pos _ (by decide)
  have m1 : 1 ≤ m := by omega
  have m2 : m ≤ 1000 := by omega
  obtain ⟨w1, w2⟩ := rep_pair c d m.toNat s1 s2 (by omega) (by omega)
  have a1 : binD .add (.str ⟨#[c]⟩) (.str ⟨#[d]⟩) = some (.fr (.str (⟨#[c]⟩ ++ ⟨#[d]⟩))) := by
    have : (⟨#[c]⟩ : Str).length + (⟨#[d]⟩ : Str).length ≤ sizeLine := by
      show 1 + 1 ≤ _
      omega
    simp only [binD, this, if_true]
  have l2 : (⟨#[c]⟩ ++ ⟨#[d]⟩ : Str).length ≤ 1000 := by
    show 2 ≤ 1000
    decide
  have a2 : binD .mul (.str (⟨#[c]⟩ ++ ⟨#[d]⟩)) (.int m) = some (.fr (.str (Str.rep m.toNat (⟨#[c]⟩ ++ ⟨#[d]⟩)))) := by
    simp only [binD]
    rw [if_pos ⟨m1, m2, l2⟩]
  have b1 : binD .mod (.int x) (.int 26) = some (.fr (.int (x % 26))) := by simp [binD]
  have b2 : binD .fdiv (.int x) (.int 26) = some (.fr (.int (x / 26))) := by simp [binD, q1]
  have b3 : binD .mod (.int (x / 26)) (.int 26) = some (.fr (.int (x / 26 % 26))) := by simp [binD]
  have b4 : binD .fdiv (.int x) (.int 676) = some (.fr (.int (x / 676))) := by simp [binD, q2]
  have b5 : binD .mod (.int (x / 676)) (.int 4) = some (.fr (.int (x / 676 % 4))) := by simp [binD]
  have b6 : binD .add (.int 1) (.int (x / 676 % 4)) = some (.fr (.int m)) := by rw [← hm]; rfl
  exact ⟨_, run_eq rfl (by simp [b__law_name, E.pu, h1', h2', a1, a2, b1, b2, b3, b4, b5, b6]), w1, w2⟩
theorem number_run (d m : Int) (h0 : 0 ≤ d) (h1 : d < 1000) : ∃ v, F__law_number.run [.fr (.int d), .fr (.int m)] = some (.fr (.int v), [some (.fr (.int d)), some (.fr (.int m))]) ∧ -2147483648 ≤ v ∧ v ≤ 2147483647 := by
  have big := big
  have l4 : 4 ≤ sizeLine := by omega
  obtain ⟨w, hw, ha⟩ := at_ok (l := [D.int (d - 500), .int (-2147483648 + d), .int (2147483647 - d), .int (d * 1000003 % 4294967296 - 2147483648)]) (v := m % 4) (Int.emod_nonneg _ (by decide)) (Int.emod_lt_of_pos _ (by decide))
  have e0 : 0 ≤ d * 1000003 % 4294967296 := Int.emod_nonneg _ (by decide)
  have e1 : d * 1000003 % 4294967296 < 4294967296 := Int.emod_lt_of_pos _ (by decide)
  obtain ⟨v, rfl, v0, v1⟩ : ∃ i, w = D.int i ∧ -2147483648 ≤ i ∧ i ≤ 2147483647 := by
    simp only [List.mem_cons, List.not_mem_nil, or_false] at hw
    rcases hw with rfl | rfl | rfl | rfl
    · exact ⟨_, rfl, by omega, by omega⟩
    · exact ⟨_, rfl, by omega, by omega⟩
    · exact ⟨_, rfl, by omega, by omega⟩
    · exact ⟨_, rfl, by omega, by omega⟩
  have ix : idxD (.lst [.int (d - 500), .int (-2147483648 + d), .int (2147483647 - d), .int (d * 1000003 % 4294967296 - 2147483648)]) (.int (m % 4)) = some (.int v) := ha
  have mm : mulOk d 1000003 = true := by unfold mulOk; simp
  exact ⟨v, run_eq rfl (by simp [b__law_number, E.pu, Es.pu, binD, mm, l4, ix, frz]), v0, v1⟩
end FL
namespace FL
open PySem L2 FJ
theorem compL_enum {ef : FJ.Env → FJ.R} {s0 s1 : Option T} {Pv : D → Prop} : ∀ (l : List D) (k : Nat) (acc : List D), (∀ (k : Nat) (d : D), d ∈ l → ∃ v, ef [s0, s1, some (.fr (.int k)), some (.fr d)] = .ok (.v (.fr v)) [s0, s1, some (.fr (.int k)), some (.fr d)] ∧ Pv v) → acc.length + l.length ≤ sizeLine →
    ∃ out, compL (fun r => evc .no r) ef (.tup [.name 2, .name 3]) (enumD k l) [s0, s1, none, none] acc = .ok (acc ++ out) [s0, s1, none, none] ∧ out.length = l.length ∧ ∀ v ∈ out, Pv v
  | [], k, acc, _, _ => ⟨[], by simp [enumD, compL], rfl, by simp⟩
  | d :: l, k, acc, h, hl => by
    obtain ⟨v, e1, e2⟩ := h k d (List.mem_cons_self ..)
    simp only [List.length_cons] at hl
    obtain ⟨out, g1, g2, g3⟩ := compL_enum l (k + 1) (acc ++ [v]) (fun k d hd => h k d (List.mem_cons_of_mem _ hd)) (by simp; omega)
    refine ⟨v :: out, ?_, by simp [g2], ?_⟩
    · have hs : acc.length < sizeLine := by omega
      simp only [enumD, compL, Tg.bind, Tg.binds, List.set_cons_zero, List.set_cons_succ, evc_no, e1]
      simpa [hs, Tg.slots, Tg.slotss, wipeE] using g1
    · intro w hw
      rcases List.mem_cons.mp hw with rfl | hw
      · exact e2
      · exact g3 w hw
theorem compL_each {ef : FJ.Env → FJ.R} {s0 s1 s2 : Option T} {Pv : D → Prop} : ∀ (l : List D) (acc : List D), (∀ d ∈ l, ∃ v, ef [s0, s1, s2, some (.fr d)] = .ok (.v (.fr v)) [s0, s1, s2, some (.fr d)] ∧ Pv v) → acc.length + l.length ≤ sizeLine →
    ∃ out, compL (fun r => evc .no r) ef (.name 3) l [s0, s1, s2, none] acc = .ok (acc ++ out) [s0, s1, s2, none] ∧ out.length = l.length ∧ ∀ v ∈ out, Pv v
  | [], acc, _, _ => ⟨[], by simp [compL], rfl, by simp⟩
  | d :: l, acc, h, hl => by
    obtain ⟨v, e1, e2⟩ := h d (List.mem_cons_self ..)
    simp only [List.length_cons] at hl
    obtain ⟨out, g1, g2, g3⟩ := compL_each l (acc ++ [v]) (fun d hd => h d (List.mem_cons_of_mem _ hd)) (by simp; omega)
    refine ⟨v :: out, ?_, by simp [g2], ?_⟩
    · have hs : acc.length < sizeLine := by omega
      simp only [compL, Tg.bind, List.set_cons_zero, List.set_cons_succ, evc_no, e1]
      simpa [hs, Tg.slots, wipeE] using g1
    · intro w hw
      rcases List.mem_cons.mp hw with rfl | hw
      · exact e2
      · exact g3 w hw
theorem list_num (l : List Int) (hb : ∀ i ∈ l, 0 ≤ i ∧ i < 1000) (hl : l.length ≤ 60) : ∃ ds : List D, F__law_list.run [.fr (.str "numbers"), .fr (intL l)] = some (.ow (.lst ds), [some (.fr (.str "numbers")), some (.fr (intL l))]) ∧ ds.length = l.length ∧ (∀ e ∈ ds, G0 e) ∧ ∀ e ∈ ds, isPlain e = true := by
  have big := big
  have q4 : divOk 4 = true := by decide
  obtain ⟨out, g1, g2, g3⟩ := compL_enum (ef := fun r => ev (.call F__law_number (.ci (.var 3) (.ci (.bin .add (.var 2) (.bin .fdiv (.var 3) (.cst (.int 4)))) .nil))) r) (s0 := some (.fr (.str "numbers"))) (s1 := some (.fr (intL l))) (Pv := fun d => ∃ i, d = .int i ∧ -2147483648 ≤ i ∧ i ≤ 2147483647) (l.map .int) 0 [] (fun k d hd => by
    obtain ⟨i, hi, rfl⟩ := List.mem_map.mp hd
    obtain ⟨v, e1, e2, e3⟩ := number_run i (k + i / 4) (hb i hi).1 (hb i hi).2
    exact ⟨.int v, by simp [E.pu, binD, q4, e1], v, rfl, e2, e3⟩) (by simp; omega)
  have hc := ev_comp (e := .call F__law_number (.ci (.var 3) (.ci (.bin .add (.var 2) (.bin .fdiv (.var 3) (.cst (.int 4)))) .nil))) (tg := .tup [.name 2, .name 3]) (it := .enu (.var 1)) (cd := .no) (hid := none) (r := [some (.fr (.str "numbers")), some (.fr (intL l)), none, none]) (r0 := [some (.fr (.str "numbers")), some (.fr (intL l)), none, none]) (ds := enumD 0 (l.map .int)) (by simp [evi, intL]) rfl (by simpa [hideE, wipeE, Tg.slots, Tg.slotss] using g1)
  rw [show showE none (backE (hideE none [some (.fr (.str "numbers")), some (.fr (intL l)), none, none]) (Tg.slots (.tup [.name 2, .name 3])) [some (.fr (.str "numbers")), some (.fr (intL l)), none, none]) = [some (.fr (.str "numbers")), some (.fr (intL l)), none, none] from rfl] at hc
  refine ⟨out, run_eq rfl ?_, by simpa using g2, fun e he => ?_, fun e he => ?_⟩
  · simp [b__law_list, E.pu, cmpD, hc]
  · obtain ⟨i, rfl, _⟩ := g3 e he
    trivial
  · obtain ⟨i, rfl, h1, h2⟩ := g3 e he
    simp [isPlain, h1, h2]
theorem list_tab (l : List Int) (hb : ∀ i ∈ l, 0 ≤ i ∧ i < 1000) (hl : l.length ≤ 60) : ∃ ds : List D, F__law_list.run [.fr (.str "table"), .fr (intL l)] = some (.ow (.lst ds), [some (.fr (.str "table")), some (.fr (intL l))]) ∧ ds.length = l.length ∧ (∀ e ∈ ds, G0 e) ∧ ∀ e ∈ ds, isWord e = true := by
  have big := big
  obtain ⟨out, g1, g2, g3⟩ := compL_each (ef := fun r => ev (.call F__law_name (.ci (.var 3) .nil)) r) (s0 := some (.fr (.str "table"))) (s1 := some (.fr (intL l))) (s2 := none) (Pv := fun d => ∃ z, d = .str z ∧ isW z = true ∧ z.length ≤ 100) (l.map .int) [] (fun d hd => by
    obtain ⟨i, hi, rfl⟩ := List.mem_map.mp hd
    obtain ⟨v, e1, e2, e3⟩ := name_run i (hb i hi).1
    exact ⟨.str v, by simp [E.pu, e1], v, rfl, e2, e3⟩) (by simp; omega)
  have hc := ev_comp (e := .call F__law_name (.ci (.var 3) .nil)) (tg := .name 3) (it := .lst (.var 1)) (cd := .no) (hid := none) (r := [some (.fr (.str "table")), some (.fr (intL l)), none, none]) (r0 := [some (.fr (.str "table")), some (.fr (intL l)), none, none]) (ds := l.map .int) (by simp [evi, intL, seqD]) rfl (by simpa [hideE, wipeE, Tg.slots] using g1)
  rw [show showE none (backE (hideE none [some (.fr (.str "table")), some (.fr (intL l)), none, none]) (Tg.slots (.name 3)) [some (.fr (.str "table")), some (.fr (intL l)), none, none]) = [some (.fr (.str "table")), some (.fr (intL l)), none, none] from rfl] at hc
  refine ⟨out, run_eq rfl ?_, by simpa using g2, fun e he => ?_, fun e he => ?_⟩
  · simp [b__law_list, E.pu, cmpD, ofS_beq, hc]
  · obtain ⟨z, rfl, _, h⟩ := g3 e he
    exact h
  · obtain ⟨z, rfl, h, _⟩ := g3 e he
    exact h
theorem hs : ∀ n : Nat, n ≤ 1000 → n ≤ sizeLine := fun n h => Nat.le_trans h (Nat.le_trans (by decide) big)
theorem idx_lst (l : List D) (j : Int) : idxD (.lst l) (.int j) = at_ l j := rfl
theorem at_nat {l : List D} {k : Nat} {d : D} (h : l[k]? = some d) : at_ l (k : Int) = some d := by
  show atI l k = _
  unfold atI ixN
  have := ltOf h
  rw [if_pos (by omega), if_pos (by omega)]
  simpa using h
theorem cut_four (a b c d : D) (r : List D) : cut (a :: b :: c :: d :: r) (some 4) none = r := by
  unfold cut
  rw [show (4 : Int) = ((4 : Nat) : Int) from rfl, HT.sIx_nat, HT.sIx_none]
  simp
theorem cut_sub {α : Type} {ds : List α} {lo hi : Option Int} {e : α} (h : e ∈ cut ds lo hi) : e ∈ ds := by
  unfold cut at h
  exact List.mem_of_mem_drop (List.mem_of_mem_take h)
theorem cut_map (l : List Int) (lo hi : Option Int) : cut (l.map D.int) lo hi = (cut l lo hi).map D.int := by
  unfold cut
  rw [List.length_map, List.map_take, List.map_drop]
theorem gI (i : Int) : G0 (.int i) := trivial
theorem told_run (d0 d1 d2 d3 d4 : Int) (rest : List Int) (h : ∀ i ∈ d1 :: d2 :: d3 :: d4 :: rest, 0 ≤ i ∧ i < 1000) (hl : rest.length ≤ 59) : ∃ told, F__law_told.run [.fr (intL (d0 :: d1 :: d2 :: d3 :: d4 :: rest))] = some (.fr told, [some (.fr (intL (d0 :: d1 :: d2 :: d3 :: d4 :: rest)))]) ∧
    F__law_right.run [.fr told] = some (.fr (.bl true), [some (.fr told)]) := by
  have big := big
  obtain ⟨L, hL⟩ : ∃ L, intL (d0 :: d1 :: d2 :: d3 :: d4 :: rest) = L := ⟨_, rfl⟩
  have i0 : idxD L (.int 0) = some (.int d0) := by rw [← hL]; exact at_nat (k := 0) rfl
  have i1 : idxD L (.int 1) = some (.int d1) := by rw [← hL]; exact at_nat (k := 1) rfl
  have i2 : idxD L (.int 2) = some (.int d2) := by rw [← hL]; exact at_nat (k := 2) rfl
  have i3 : idxD L (.int 3) = some (.int d3) := by rw [← hL]; exact at_nat (k := 3) rfl
  have i4 : idxD L (.int 4) = some (.int d4) := by rw [← hL]; exact at_nat (k := 4) rfl
  have sl : sliD L (some 4) none = some (.ow (intL (d4 :: rest))) := by
    rw [← hL]
    show some (T.ow (.lst (cut ((d0 :: d1 :: d2 :: d3 :: d4 :: rest).map D.int) (some 4) none))) = _
    simp only [List.map_cons, cut_four]
    rfl
  have hb : ∀ i ∈ d4 :: rest, 0 ≤ i ∧ i < 1000 := fun i hi => h i (List.mem_cons_of_mem _ (List.mem_cons_of_mem _ (List.mem_cons_of_mem _ hi)))
  obtain ⟨w, n1, w1, w2⟩ := name_run d3 (h d3 (by simp)).1
  obtain ⟨v, n2, v1, v2⟩ := name_run d4 (h d4 (by simp)).1
  obtain ⟨nu, n3, u1, u2⟩ := number_run d3 d2 (h d3 (by simp)).1 (h d3 (by simp)).2
  obtain ⟨ns, n4, c1, c2, c3⟩ := list_num (d4 :: rest) hb (by simp; omega)
  obtain ⟨ts, n5, c4, c5, c6⟩ := list_tab (d4 :: rest) hb (by simp; omega)
  simp only [List.length_cons] at c1 c4
  have bb : ∀ x : Int, isBox (.int (x % 4)) = true := fun x => by
    have h0 : 0 ≤ x % 4 := Int.emod_nonneg _ (by decide)
    have h1 : x % 4 < 4 := Int.emod_lt_of_pos _ (by decide)
    simp [isBox, h0, h1]
  have pn : isPlain (.int nu) = true := by simp [isPlain, u1, u2]
  have gw : G0 (.str w) := w2
  have gv : G0 (.str v) := v2
  have hw : isWord (.str w) = true := w1
  have hv : isWord (.str v) = true := v1
  obtain ⟨told, hm, ha⟩ := at_ok (l := [D.tup [.str "mark", .str w, .bl (decide (d1 % 2 = 1))], .tup [.str "set", .int (d1 % 4), .int nu], .tup [.str "add", .int (d1 % 4), .int (d2 % 4)], .tup [.str "take", .int (d1 % 4), .int (d2 % 4)], .tup [.str "say", .int (d1 % 4)],
    .tup [.str "ask", .int (d1 % 4)], .tup [.str "jump", .str w], .tup [.str "jumpif", .int (d1 % 4), .str w], .tup [.str "call", .str w], .tup [.str "back"], .tup [.str "stop"],
    .tup [.str "load", .int (d1 % 4), .int (d2 % 4), .str w], .tup [.str "jumpby", .int (d1 % 4), .str w], .tup [.str "alike", .int (d1 % 4), .str w, .str v],
    .tup [.str "numbers", .lst ns], .tup [.str "table", .lst ts]]) (v := d0 % 16) (Int.emod_nonneg _ (by decide)) (Int.emod_lt_of_pos _ (by decide))
  rw [← idx_lst] at ha
  refine ⟨told, run_eq rfl ?_, ?_⟩
  · rw [hL]
    simp [b__law_told, E.pu, Es.pu, Ar.pu, Oe.pu, binD, cmpD, i0, i1, i2, i3, i4, sl, n1, n2, n3, n4, n5, Tg.bind, Tg.binds, hs, frz, ha]
  · simp only [List.mem_cons, List.not_mem_nil, or_false] at hm
    rcases hm with rfl | rfl | rfl | rfl | rfl | rfl | rfl | rfl | rfl | rfl | rfl | rfl | rfl | rfl | rfl | rfl
    · exact right_mark gw hw (t := .bl _) trivial rfl
    · exact right_set (gI _) (bb d1) (gI _) pn
    · exact right_add (gI _) (bb d1) (gI _) (bb d2)
    · exact right_take (gI _) (bb d1) (gI _) (bb d2)
    · exact right_say (gI _) (bb d1)
    · exact right_ask (gI _) (bb d1)
    · exact right_jump gw hw
    · exact right_jumpif (gI _) (bb d1) gw hw
    · exact right_call gw hw
    · exact right_back
    · exact right_stop
    · exact right_load (gI _) (bb d1) (gI _) (bb d2) gw hw
    · exact right_jumpby (gI _) (bb d1) gw hw
    · exact right_alike (gI _) (bb d1) gw hw gv hv
    · exact right_numbers c2 c3 (by omega) (by omega)
    · exact right_table c5 c6 (by omega) (by omega)
def IL (ns : List Int) (i : Nat) (r : FJ.Env) : Prop := ∃ a b c : Option T, r = [some (.fr (.scr ns)), a, b, c]
def IK (ns : List Int) (x : Int) (l : List Int) (i : Nat) (r : FJ.Env) : Prop := ∃ (t : T) (c : Option T), (t = .ow (intL l) ∨ t = .fr (intL l)) ∧ r = [some (.fr (.scr ns)), some (.fr (.int x)), some t, c]
theorem law_runs (ns : List Int) (hl : ns.length ≤ 63) : ∃ rp, F_law.run [.fr (.scr ns)] = some (.fr (.bl true), rp) := by
  have big := big
  have q60 : divOk 60 = true := by decide
  obtain ⟨t, rp, h1, h2⟩ := run_by (n := 4) (io := [false]) (b := b_law) (ts := [.fr (.scr ns)]) (Q := fun t rp => t = .fr (.bl true)) rfl (by
    simp only [b_law, WP, WP_seq]
    refine WP_for (ds := (cut ns none (some 20)).map .int) (hid := none) (r1 := [some (.fr (.scr ns)), none, none, none]) (IL ns) (by simp [evi, sliD, seqD, Oe.pu, E.pu]) ⟨_, _, _, rfl⟩ rfl ?_ ?_
    · rintro i d r hd ⟨a, b, c, rfl⟩
      obtain ⟨x, _, rfl⟩ := List.mem_map.mp (List.mem_of_getElem? hd)
      refine ⟨_, rfl, ?_⟩
      obtain ⟨m, hm⟩ : ∃ m, x % 60 = m := ⟨_, rfl⟩
      have m0 : 0 ≤ m := by rw [← hm]; exact Int.emod_nonneg _ (by decide)
      have m1 : m < 60 := by rw [← hm]; exact Int.emod_lt_of_pos _ (by decide)
      obtain ⟨l, e1, e2, e3⟩ := draws_run (x / 60) (6 + m) (by omega) (by omega)
      simp only [WP, WP_seq]
      simp [E.pu, Ar.pu, binD, q60, hm, e1]
      refine WP_for (ds := (List.range 3).map fun (i : Nat) => D.int i) (hid := none) (r1 := [some (.fr (.scr ns)), some (.fr (.int x)), some (.ow (intL l)), c]) (IK ns x l) (by simp [evi, rngD]) ⟨_, _, .inl rfl, rfl⟩ rfl ?_ ?_
      · rintro k d r hd ⟨t, c, ht, rfl⟩
        obtain ⟨j, _, rfl⟩ := List.mem_map.mp (List.mem_of_getElem? hd)
        refine ⟨_, rfl, ?_⟩
        obtain ⟨a0, ha0⟩ : ∃ a0, l[0]? = some a0 := ⟨l[0], List.getElem?_eq_getElem (by omega)⟩
        have ix : idxD (intL l) (.int 0) = some (.int a0) := at_nat (k := 0) (by rw [List.getElem?_map, ha0]; rfl)
        have cl : (cut l (some 1) (some (5 + m))).length = (4 + m).toNat := by
          unfold cut
          rw [show (1 : Int) = ((1 : Nat) : Int) from rfl, show (5 + m) = (((5 + m).toNat : Nat) : Int) by omega, HT.sIx_nat, HT.sIx_nat, List.length_take, List.length_drop]
          omega
        have sl : sliD (intL l) (some 1) (some (5 + m)) = some (.ow (intL (cut l (some 1) (some (5 + m))))) := by
          show some (T.ow (.lst (cut (l.map D.int) _ _))) = _
          rw [cut_map]; rfl
        obtain ⟨y, hy⟩ : ∃ y, a0 + 5 * (j : Int) = y := ⟨_, rfl⟩
        have hsub : ∀ i ∈ cut l (some 1) (some (5 + m)), 0 ≤ i ∧ i < 1000 := fun i hi => e3 i (cut_sub hi)
        generalize cut l (some 1) (some (5 + m)) = C at cl sl hsub
        match C, cl, sl, hsub with
        | d1 :: d2 :: d3 :: d4 :: rest, cl, sl, hsub =>
          simp only [List.length_cons] at cl
          obtain ⟨told, t1, t2⟩ := told_run y d1 d2 d3 d4 rest hsub (by omega)
          have ad : binD .add (.lst [.int y]) (intL (d1 :: d2 :: d3 :: d4 :: rest)) = some (.ow (intL (y :: d1 :: d2 :: d3 :: d4 :: rest))) := by
            simp only [binD, intL, List.length_map, List.length_cons, List.length_nil]
            rw [if_pos (by omega)]
            rfl
          have mm : mulOk 5 (j : Int) = true := by unfold mulOk; simp
          have b1 : binD .mul (.int 5) (.int (j : Int)) = some (.fr (.int (5 * (j : Int)))) := by simp only [binD, mm, if_true]
          have b2 : binD .add (.int a0) (.int (5 * (j : Int))) = some (.fr (.int y)) := by rw [← hy]; rfl
          have b3 : binD .mod (.int x) (.int 60) = some (.fr (.int m)) := by rw [← hm]; rfl
          have b4 : binD .add (.int 5) (.int m) = some (.fr (.int (5 + m))) := rfl
          rcases ht with rfl | rfl <;>
            (simp only [WP]
             simp [E.pu, Es.pu, Ar.pu, Oe.pu, ix, b1, b2, b3, b4, hs, sl, ad, t1, t2, frz]
             exact ⟨_, _, by first | exact .inl rfl | exact .inr rfl, rfl⟩)
        | [], cl, _, _ => simp at cl; omega
        | [_], cl, _, _ => simp at cl; omega
        | [_, _], cl, _, _ => simp at cl; omega
        | [_, _, _], cl, _, _ => simp at cl; omega
      · rintro r ⟨t, c, ht, rfl⟩
        simp only [showE]
        exact ⟨_, _, _, rfl⟩
    · rintro r ⟨a, b, c, rfl⟩
      simp [showE, E.pu, Es.pu, Ar.pu, hs, right_back, right_stop])
  exact ⟨rp, by rw [← h2]; exact h1⟩
end FL
open PySem PySem.W PySem.Calls PyProof.Rows
theorem PySem.Challenge.cw_farjump_k02_rows_told_holds : PySem.Challenge.rw_farjump_k02_rows_told.Holds := by
  w_on; o_law
  refine HandSHeadRun.head_any (r := OpenLaw.row PySem.Challenge.rw_farjump_k02_rows_told) (q := view (OpenLaw.row PySem.Challenge.rw_farjump_k02_rows_told).prog [51]) (H := FL.hk) (ob := FL.ob) (M := 40000) (loose := FL.loose) (d := HandSHeadRun.topDef (OpenLaw.row PySem.Challenge.rw_farjump_k02_rows_told).prog 51) (kwd := []) FL.ob_eq
    (by kernel_rfl) (fun s => by kernel_rfl) FL.run (by kernel_rfl) (by kernel_rfl) (by kernel_rfl) (by rfl) (by first | assumption | decide +kernel) (by decide +kernel) ⟨rfl, rfl, rfl, rfl, rfl, by decide +kernel⟩ ?hw ?hc
  case hw => w_witness2
  case hc =>
    refine L2.walk_ofE (l := PySem.Challenge.rw_farjump_k02_rows_told) (n := 63) (k := 8) (x := "_law_script") (CX := L2.CX0) rfl (by decide) (by kernel_rfl) ⟨rfl, by decide, by decide⟩ ?F (fun _ _ _ _ z => z)
    intro w mg fa h Y G hmg0
    obtain ⟨K, KX, c⟩ := Y
    have hmg : mg ("law" : PySem.Str) = some (.ref fa) := by
      have e : (HandSHeadRun.topDef (OpenLaw.row PySem.Challenge.rw_farjump_k02_rows_told).prog 51).name = ("law" : PySem.Str) := by kernel_rfl
      rw [← e]
      exact hmg0
    obtain ⟨fd, hb, hF⟩ := FL.facts (P := (PySem.Challenge.rw_farjump_k02_rows_told).prog) (w := w) KX G hmg c
    exact ⟨K, fd, _, KX, hb, fun H a ns hl _ hS => FJ.law_sp rfl rfl (FL.law_runs ns hl) hS (fun _ => rfl), hF⟩

