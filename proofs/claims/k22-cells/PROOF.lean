import PyProof.Rows.All
import Wide.All
import OpenK.AllK
import Wide.FinOn
import HandS.ForMost
import HandS.WrittenGet
import HandS.Wide
import HandS.TupAny
import HandS.Steps
import PyProof.P3Eq
import PyProof.NeData
import HandS.TupLen
import HandS.Flow
import HandS.IsInst
import PyProof.SumWalkG
import HandS.Walk
import HandS.Comp
import HandS.Iter
import HandS.Exc
import HandS.Head0
import HandS.Head1
import HandS.Head2
import HandS.HeadEnd
import HandS.HeadHook1
import HandS.HeadHook2
import HandS.HeadHook3
import HandS.HeadHook4
import PySem.Challenge.RW_farjump_k22_cells_read_back
set_option Elab.async false
set_option linter.all false
set_option maxRecDepth 100000
set_option maxHeartbeats 0
/-! Data as trees, where they stand, what is owned. -/
namespace FJ
open PySem L2

/-- a value as a tree -/
inductive D where
  | non | bl (b : Bool) | int (i : Int) | str (s : Str)
  | tup (xs : List D) | lst (xs : List D)
  | dK (ks : List Key) (vs : List D) | dT (ks : List (List Key)) (vs : List D)
  | obj (c : Nat) (fs : List D)
  | scr (ns : List Int)
  | tab (ks : List Str) (ds : List D) (ms : List Str)
  deriving Inhabited

/-- the module's part, the classes by number: where they stand, their fields in order -/
structure Ct where
  K : PySem.W.Frag
  cls : Nat → Addr
  fld : Nat → List Str
  w : World

/-- a written dict in its order -/
inductive KPairs : List DictEntry → List Str → List V → Prop
  | nil : KPairs [] [] []
  | cons {e : DictEntry} {k : Str} {t : Tok} {v : V} {es : List DictEntry} {ks : List Str} {vs : List V} : e.key = .str k t → RelV v e.val → KPairs es ks vs → KPairs (e :: es) (k :: ks) (v :: vs)
def KIts (K : PySem.W.Frag) (w : World) (p : Addr) (ks : List Str) (vs : List V) : Prop := ∃ es n, KDict K w p es n ∧ ks.Nodup ∧ KPairs es.toList ks vs
mutual
inductive Rep (C : Ct) (G : Hp) : D → V → Prop
  | non : Rep C G .non .non
  | bl {b : Bool} : Rep C G (.bl b) (.bl b)
  | int {i : Int} : Rep C G (.int i) (.int i)
  | str {s : Str} : Rep C G (.str s) (.str s)
  | tup {p : Addr} {vs : List V} {ds : List D} : G p = some (.tup vs) → Reps C G ds vs → Rep C G (.tup ds) (.ref p)
  | lst {p : Addr} {vs : List V} {ds : List D} : G p = some (.lst vs) → Reps C G ds vs → Rep C G (.lst ds) (.ref p)
  | scr {p : Addr} {ns : List Int} : SqL C.K G p (ns.map V.int) → Rep C G (.scr ns) (.ref p)
  | dK {p : Addr} {ks : List Key} {vs : List V} {ds : List D} : G p = some (.dK (ks.zip vs)) → ks.length = ds.length → Reps C G ds vs → Rep C G (.dK ks ds) (.ref p)
  | dT {p : Addr} {ks : List (List Key)} {vs : List V} {ds : List D} : G p = some (.dT (ks.zip vs)) → ks.length = ds.length → Reps C G ds vs → Rep C G (.dT ks ds) (.ref p)
  | obj {p dx : Addr} {c : Nat} {vs : List V} {ds : List D} : G p = some (.ins (C.cls c) dx ((C.fld c).zip vs)) → Reps C G ds vs → Rep C G (.obj c ds) (.ref p)
  | tab {p : Addr} {ks ms : List Str} {vs : List V} {ds : List D} : KIts C.K C.w p ks vs → (p == sysModules) = false → (∀ (i : Nat) (k : Str), ks[i]? = some k → ∃ v, vs[i]? = some v ∧ KDct C.K C.w p k v) → (∀ m ∈ ms, KMiss C.K C.w p m) → Reps C G ds vs → Rep C G (.tab ks ds ms) (.ref p)
inductive Reps (C : Ct) (G : Hp) : List D → List V → Prop
  | nil : Reps C G [] []
  | cons {d : D} {v : V} {ds : List D} {vs : List V} : Rep C G d v → Reps C G ds vs → Reps C G (d :: ds) (v :: vs)
end

/-- one mutable object whose parts stand still -/
inductive Flat (C : Ct) (G : Hp) : D → HO → Prop
  | lst {ds : List D} {vs : List V} : Reps C G ds vs → Flat C G (.lst ds) (.lst vs)
  | dK {ks : List Key} {ds : List D} {vs : List V} : ks.length = ds.length → Reps C G ds vs → Flat C G (.dK ks ds) (.dK (ks.zip vs))
  | dT {ks : List (List Key)} {ds : List D} {vs : List V} : ks.length = ds.length → Reps C G ds vs → Flat C G (.dT ks ds) (.dT (ks.zip vs))
  | obj {c : Nat} {dx : Addr} {ds : List D} {vs : List V} : Reps C G ds vs → Flat C G (.obj c ds) (.ins (C.cls c) dx ((C.fld c).zip vs))

/-- a value and who may change it: fr stands still, ow is ours with parts that stand still, the others are ours with parts of ours -/
inductive T where
  | fr (d : D) | ow (d : D)
  | nl (ts : List T) | nt (ts : List T) | nd (ks : List Key) (ts : List T) | no (c : Nat) (ts : List T)
  deriving Inhabited
mutual
def T.toD : T → D
  | .fr d => d
  | .ow d => d
  | .nl ts => .lst (T.toDs ts)
  | .nt ts => .tup (T.toDs ts)
  | .nd ks ts => .dK ks (T.toDs ts)
  | .no c ts => .obj c (T.toDs ts)
def T.toDs : List T → List D
  | [] => []
  | t :: ts => T.toD t :: T.toDs ts
end

mutual
inductive Own (C : Ct) (G H : Hp) : T → V → (Addr → Prop) → Prop
  | fr {d : D} {v : V} {A : Addr → Prop} : Rep C G d v → (∀ a, ¬ A a) → Own C G H (.fr d) v A
  | ow {d : D} {p : Addr} {o : HO} {A : Addr → Prop} : H p = some o → G p = none → Flat C G d o → (∀ a, A a ↔ a = p) → Own C G H (.ow d) (.ref p) A
  | nl {ts : List T} {p : Addr} {vs : List V} {A B : Addr → Prop} : H p = some (.lst vs) → G p = none → Owns C G H ts vs B → ¬ B p → (∀ a, A a ↔ a = p ∨ B a) → Own C G H (.nl ts) (.ref p) A
  | nt {ts : List T} {p : Addr} {vs : List V} {A B : Addr → Prop} : H p = some (.tup vs) → G p = none → Owns C G H ts vs B → ¬ B p → (∀ a, A a ↔ a = p ∨ B a) → Own C G H (.nt ts) (.ref p) A
  | nd {ks : List Key} {ts : List T} {p : Addr} {vs : List V} {A B : Addr → Prop} : H p = some (.dK (ks.zip vs)) → G p = none → ks.length = ts.length → Owns C G H ts vs B → ¬ B p → (∀ a, A a ↔ a = p ∨ B a) → Own C G H (.nd ks ts) (.ref p) A
  | no {c : Nat} {ts : List T} {p dx : Addr} {vs : List V} {A B : Addr → Prop} : H p = some (.ins (C.cls c) dx ((C.fld c).zip vs)) → G p = none → Owns C G H ts vs B → ¬ B p → (∀ a, A a ↔ a = p ∨ B a) → Own C G H (.no c ts) (.ref p) A
inductive Owns (C : Ct) (G H : Hp) : List T → List V → (Addr → Prop) → Prop
  | nil {A : Addr → Prop} : (∀ a, ¬ A a) → Owns C G H [] [] A
  | cons {t : T} {v : V} {ts : List T} {vs : List V} {A B D : Addr → Prop} : Own C G H t v A → Owns C G H ts vs B → (∀ a, A a → ¬ B a) → (∀ a, D a ↔ A a ∨ B a) → Owns C G H (t :: ts) (v :: vs) D
end

section
variable {C : Ct} {G G' H H' : Hp}
mutual
theorem Rep.mono (s : Same G G') : ∀ {d : D} {v : V}, Rep C G d v → Rep C G' d v
  | _, _, .non => .non
  | _, _, .bl => .bl
  | _, _, .int => .int
  | _, _, .str => .str
  | _, _, .tup h r => .tup (s _ _ h) (Reps.mono s r)
  | _, _, .lst h r => .lst (s _ _ h) (Reps.mono s r)
  | _, _, .scr h => .scr (Same.seq s h)
  | _, _, .dK h l r => .dK (s _ _ h) l (Reps.mono s r)
  | _, _, .dT h l r => .dT (s _ _ h) l (Reps.mono s r)
  | _, _, .obj h r => .obj (s _ _ h) (Reps.mono s r)
  | _, _, .tab z a b c r => .tab z a b c (Reps.mono s r)
theorem Reps.mono (s : Same G G') : ∀ {ds : List D} {vs : List V}, Reps C G ds vs → Reps C G' ds vs
  | _, _, .nil => .nil
  | _, _, .cons a b => .cons (Rep.mono s a) (Reps.mono s b)
end
theorem Reps.length : ∀ {ds : List D} {vs : List V}, Reps C G ds vs → ds.length = vs.length
  | _, _, .nil => rfl
  | _, _, .cons _ b => by simp [Reps.length b]
theorem Reps.get : ∀ {ds : List D} {vs : List V} {i : Nat} {d : D}, Reps C G ds vs → ds[i]? = some d → ∃ v, vs[i]? = some v ∧ Rep C G d v
  | _, _, _, _, .nil, e => by simp at e
  | _, _, 0, _, .cons a _, e => by simp at e; subst e; exact ⟨_, rfl, a⟩
  | _, _, i + 1, _, .cons _ b, e => by
    obtain ⟨v, h1, h2⟩ := Reps.get (i := i) b (by simpa using e)
    exact ⟨v, by simpa using h1, h2⟩
theorem Reps.getV : ∀ {ds : List D} {vs : List V} {i : Nat} {v : V}, Reps C G ds vs → vs[i]? = some v → ∃ d, ds[i]? = some d ∧ Rep C G d v
  | _, _, _, _, .nil, e => by simp at e
  | _, _, 0, _, .cons a _, e => by simp at e; subst e; exact ⟨_, rfl, a⟩
  | _, _, i + 1, _, .cons _ b, e => by
    obtain ⟨v, h1, h2⟩ := Reps.getV (i := i) b (by simpa using e)
    exact ⟨v, by simpa using h1, h2⟩
theorem Reps.app : ∀ {ds es : List D} {vs us : List V}, Reps C G ds vs → Reps C G es us → Reps C G (ds ++ es) (vs ++ us)
  | _, _, _, _, .nil, s => s
  | _, _, _, _, .cons a b, s => .cons a (Reps.app b s)
theorem Reps.take : ∀ {ds : List D} {vs : List V} (n : Nat), Reps C G ds vs → Reps C G (ds.take n) (vs.take n)
  | _, _, 0, _ => .nil
  | _, _, _ + 1, .nil => .nil
  | _, _, n + 1, .cons a b => .cons a (Reps.take n b)
theorem Reps.drop : ∀ {ds : List D} {vs : List V} (n : Nat), Reps C G ds vs → Reps C G (ds.drop n) (vs.drop n)
  | _, _, 0, r => r
  | _, _, _ + 1, .nil => .nil
  | _, _, n + 1, .cons _ b => Reps.drop n b
theorem Reps.set : ∀ {ds : List D} {vs : List V} {d : D} {v : V} (i : Nat), Rep C G d v → Reps C G ds vs → Reps C G (ds.set i d) (vs.set i v)
  | _, _, _, _, _, _, .nil => .nil
  | _, _, _, _, 0, r, .cons _ b => .cons r b
  | _, _, _, _, i + 1, r, .cons a b => .cons a (Reps.set i r b)
theorem Reps.one {d : D} {v : V} (r : Rep C G d v) : Reps C G [d] [v] := .cons r .nil
theorem Flat.mono (s : Same G G') {d : D} {o : HO} (f : Flat C G d o) : Flat C G' d o := by
  cases f with
  | lst r => exact .lst (Reps.mono s r)
  | dK l r => exact .dK l (Reps.mono s r)
  | dT l r => exact .dT l (Reps.mono s r)
  | obj r => exact .obj (Reps.mono s r)
theorem Flat.rep {d : D} {o : HO} {p : Addr} (f : Flat C G d o) (h : G p = some o) : Rep C G d (.ref p) := by
  cases f with
  | lst r => exact .lst h r
  | dK l r => exact .dK h l r
  | dT l r => exact .dT h l r
  | obj r => exact .obj h r
mutual
theorem Own.dom : ∀ {t : T} {v : V} {A : Addr → Prop} {a : Addr}, Own C G H t v A → A a → G a = none ∧ H a ≠ none
  | _, _, _, _, .fr _ n, h => (n _ h).elim
  | _, _, _, _, .ow h1 h2 _ e, h => by have := (e _).mp h; subst this; exact ⟨h2, by rw [h1]; simp⟩
  | _, _, _, _, .nl h1 h2 o _ e, h => by
    rcases (e _).mp h with rfl | h
    · exact ⟨h2, by rw [h1]; simp⟩
    · exact Owns.dom o h
  | _, _, _, _, .nt h1 h2 o _ e, h => by
    rcases (e _).mp h with rfl | h
    · exact ⟨h2, by rw [h1]; simp⟩
    · exact Owns.dom o h
  | _, _, _, _, .nd h1 h2 _ o _ e, h => by
    rcases (e _).mp h with rfl | h
    · exact ⟨h2, by rw [h1]; simp⟩
    · exact Owns.dom o h
  | _, _, _, _, .no h1 h2 o _ e, h => by
    rcases (e _).mp h with rfl | h
    · exact ⟨h2, by rw [h1]; simp⟩
    · exact Owns.dom o h
theorem Owns.dom : ∀ {ts : List T} {vs : List V} {A : Addr → Prop} {a : Addr}, Owns C G H ts vs A → A a → G a = none ∧ H a ≠ none
  | _, _, _, _, .nil n, h => (n _ h).elim
  | _, _, _, _, .cons o os _ e, h => by
    rcases (e _).mp h with h | h
    · exact Own.dom o h
    · exact Owns.dom os h
end
mutual
theorem Own.mono (s : Same G G') : ∀ {t : T} {v : V} {A : Addr → Prop}, Own C G H t v A → (∀ a, A a → G' a = none) → (∀ a o, A a → H a = some o → H' a = some o) → Own C G' H' t v A
  | _, _, _, .fr r n, _, _ => .fr (Rep.mono s r) n
  | _, _, _, .ow h1 h2 f e, g, k => .ow (k _ _ ((e _).mpr rfl) h1) (g _ ((e _).mpr rfl)) (Flat.mono s f) e
  | _, _, _, .nl h1 h2 o n e, g, k => .nl (k _ _ ((e _).mpr (.inl rfl)) h1) (g _ ((e _).mpr (.inl rfl))) (Owns.mono s o (fun a h => g a ((e a).mpr (.inr h))) fun a u h => k a u ((e a).mpr (.inr h))) n e
  | _, _, _, .nt h1 h2 o n e, g, k => .nt (k _ _ ((e _).mpr (.inl rfl)) h1) (g _ ((e _).mpr (.inl rfl))) (Owns.mono s o (fun a h => g a ((e a).mpr (.inr h))) fun a u h => k a u ((e a).mpr (.inr h))) n e
  | _, _, _, .nd h1 h2 l o n e, g, k => .nd (k _ _ ((e _).mpr (.inl rfl)) h1) (g _ ((e _).mpr (.inl rfl))) l (Owns.mono s o (fun a h => g a ((e a).mpr (.inr h))) fun a u h => k a u ((e a).mpr (.inr h))) n e
  | _, _, _, .no h1 h2 o n e, g, k => .no (k _ _ ((e _).mpr (.inl rfl)) h1) (g _ ((e _).mpr (.inl rfl))) (Owns.mono s o (fun a h => g a ((e a).mpr (.inr h))) fun a u h => k a u ((e a).mpr (.inr h))) n e
theorem Owns.mono (s : Same G G') : ∀ {ts : List T} {vs : List V} {A : Addr → Prop}, Owns C G H ts vs A → (∀ a, A a → G' a = none) → (∀ a o, A a → H a = some o → H' a = some o) → Owns C G' H' ts vs A
  | _, _, _, .nil n, _, _ => .nil n
  | _, _, _, .cons o os n e, g, k => .cons (Own.mono s o (fun a h => g a ((e a).mpr (.inl h))) fun a u h => k a u ((e a).mpr (.inl h))) (Owns.mono s os (fun a h => g a ((e a).mpr (.inr h))) fun a u h => k a u ((e a).mpr (.inr h))) n e
end
mutual
/-- what is owned is laid to what stands still -/
theorem Own.freeze (s : Same G G') : ∀ {t : T} {v : V} {A : Addr → Prop}, Own C G H t v A → (∀ a o, A a → H a = some o → G' a = some o) → Rep C G' t.toD v
  | _, _, _, .fr r n, _ => Rep.mono s r
  | _, _, _, .ow h1 h2 f e, k => Flat.rep (Flat.mono s f) (k _ _ ((e _).mpr rfl) h1)
  | _, _, _, .nl h1 h2 o n e, k => .lst (k _ _ ((e _).mpr (.inl rfl)) h1) (Owns.freeze s o fun a u h => k a u ((e a).mpr (.inr h)))
  | _, _, _, .nt h1 h2 o n e, k => .tup (k _ _ ((e _).mpr (.inl rfl)) h1) (Owns.freeze s o fun a u h => k a u ((e a).mpr (.inr h)))
  | _, _, _, .nd h1 h2 l o n e, k => .dK (k _ _ ((e _).mpr (.inl rfl)) h1) (by rw [l]; exact (T.toDs_length _).symm) (Owns.freeze s o fun a u h => k a u ((e a).mpr (.inr h)))
  | _, _, _, .no h1 h2 o n e, k => .obj (k _ _ ((e _).mpr (.inl rfl)) h1) (Owns.freeze s o fun a u h => k a u ((e a).mpr (.inr h)))
theorem Owns.freeze (s : Same G G') : ∀ {ts : List T} {vs : List V} {A : Addr → Prop}, Owns C G H ts vs A → (∀ a o, A a → H a = some o → G' a = some o) → Reps C G' (T.toDs ts) vs
  | _, _, _, .nil n, _ => .nil
  | _, _, _, .cons o os n e, k => .cons (Own.freeze s o fun a u h => k a u ((e a).mpr (.inl h))) (Owns.freeze s os fun a u h => k a u ((e a).mpr (.inr h)))
theorem T.toDs_length : ∀ ts : List T, (T.toDs ts).length = ts.length
  | [] => rfl
  | _ :: r => by simp [T.toDs, T.toDs_length r]
end
end
end FJ

/-! A small language over trees, and what it computes. -/
namespace FJ
open PySem L2

abbrev Env := List (Option T)
/-- what an expression hands on: a value of its own, or a part of what a slot owns -/
inductive Val where
  | v (t : T) | b (i : Nat) (t : T)
  deriving Inhabited
inductive R where
  | ok (x : Val) (r : Env) | stuck
  deriving Inhabited
inductive RL where
  | ok (ds : List D) (r : Env) | stuck
  deriving Inhabited
inductive RA where
  | ok (ts : List T) (r : Env) | stuck
  deriving Inhabited
inductive RI where
  | ok (ds : List D) (hid : Option (Nat × T)) (r : Env) | stuck
  deriving Inhabited
/-- what a statement comes to -/
inductive O where
  | nx (r : Env) | rt (t : T) (r : Env) | bk (r : Env) | ct (r : Env) | stuck
  deriving Inhabited

/-- a def: which parameters it may change (io), what it hands back, the parameters behind -/
structure Fn where
  io : List Bool
  run : List T → Option (T × Env)
def Fn.pure (f : Fn) : Bool := f.io.all (! ·)

inductive Bop where | add | sub | mul | fdiv | mod | pow
inductive Cop where | lt | le | gt | ge | eq | ne | inn | nin | isn | isnt
inductive BI where | sum2 | len | list | tuple | int | str | sum | all | any | max | min | divmod | sorted | dict
inductive MT where | upper | join | split | startswith | endswith | replace | partition | get | index
inductive Ty where | int | str | bool | list | tuple | dict | cls (k : Nat) (sub : List Nat)
inductive Tg where
  | name (i : Nat) | tup (ts : List Tg)
  deriving Inhabited

mutual
inductive E where
  | var (i : Nat) | cst (d : D) | neg (a : E)
  | bin (o : Bop) (a b : E) | cmp (o : Cop) (a b : E) | chain (o u : Cop) (a b c : E)
  | and (a b : E) | or (a b : E) | not (a : E) | ite (c a b : E)
  | tupo (as : Ar) | sub (a : E) (k : Nat) | lend (e : E)
  | tup (es : Es) | lst (es : Es) | dct (ks : List Key) (vs : Es) | dnew (t : Bool)
  | idx (a b : E) | sli (a : E) (lo hi : Oe) | fld (a : E) (f : Nat → Option Nat)
  | isi (a : E) (t : Ty) | bi (f : BI) (es : Es) | mt (m : MT) (a : E) (es : Es)
  | call (f : Fn) (as : Ar) | new (c : Nat) (f : Fn) (as : Ar) | meth (ms : Nat → Option Fn) (as : Ar)
  | comp (e : E) (tg : Tg) (it : It) (cd : Oe)
inductive Es where
  | nil | cons (e : E) (es : Es)
inductive Oe where
  | no | so (e : E)
inductive It where
  | lst (e : E) | lstf (e : E) | rng (es : Es) | enu (e : E) | zip (a b : E) | itm (e : E) | val (e : E)
inductive Ar where
  | nil | ci (e : E) (as : Ar) | cx (i : Nat) (as : Ar) | ct (e : E) (as : Ar)
end

/-! ### what has no effect on what is owned -/
mutual
def E.pu : E → Bool
  | .var _ => true | .cst _ => true | .neg a => a.pu
  | .bin _ a b => a.pu && b.pu | .cmp _ a b => a.pu && b.pu | .chain _ _ a b c => a.pu && (b.pu && c.pu)
  | .and a b => a.pu && b.pu | .or a b => a.pu && b.pu | .not a => a.pu | .ite c a b => c.pu && (a.pu && b.pu)
  | .tupo _ => false | .sub a _ => a.pu | .lend e => e.pu
  | .tup es => es.pu | .lst es => es.pu | .dct _ vs => vs.pu | .dnew _ => true
  | .idx a b => a.pu && b.pu | .sli a lo hi => a.pu && (lo.pu && hi.pu) | .fld a _ => a.pu
  | .isi a _ => a.pu | .bi _ es => es.pu | .mt _ a es => a.pu && es.pu
  | .call _ as => as.pu | .new _ _ _ => false | .meth _ as => as.pu
  | .comp e _ it cd => e.pu && (it.pu && cd.pu)
def Es.pu : Es → Bool
  | .nil => true | .cons e es => e.pu && es.pu
def Oe.pu : Oe → Bool
  | .no => true | .so e => e.pu
def It.pu : It → Bool
  | .lst e => e.pu | .lstf e => e.pu | .rng es => es.pu | .enu e => e.pu | .zip a b => a.pu && b.pu | .itm e => e.pu | .val e => e.pu
def Ar.pu : Ar → Bool
  | .nil => true | .ci e as => e.pu && as.pu | .cx _ _ => false | .ct _ _ => false
end

/-! ### values -/
def T.soft : T → Bool
  | .fr _ => true | .ow _ => true | _ => false
def Val.toD : Val → D
  | .v t => t.toD
  | .b _ t => t.toD
/-- what slot i owns stands still from now on -/
def frz (i : Nat) (r : Env) : Env := match r[i]? with
  | some (some t) => r.set i (some (.fr t.toD))
  | _ => r
/-- the value is read: where p, what a slot owns is read in its place -/
def useE (p : Bool) (x : Val) (r : Env) : Env := match x with
  | .v _ => r
  | .b i t => if p && t.soft then r else frz i r
/-- .. for a look that hands nothing on -/
def lookE (p : Bool) (x : Val) (r : Env) : Env := match x with
  | .v _ => r
  | .b i _ => if p then r else frz i r
def R.use (p : Bool) (r : R) (k : D → Env → R) : R := match r with
  | .ok x e => k x.toD (useE p x e)
  | .stuck => .stuck
def R.look (p : Bool) (r : R) (k : D → Env → R) : R := match r with
  | .ok x e => k x.toD (lookE p x e)
  | .stuck => .stuck
def F (d : D) (r : Env) : R := .ok (.v (.fr d)) r
def ofT (o : Option T) (r : Env) : R := match o with
  | some t => .ok (.v t) r
  | none => .stuck
def ofD (o : Option D) (r : Env) : R := match o with
  | some d => .ok (.v (.fr d)) r
  | none => .stuck

def mulOk (i j : Int) : Bool := decide (-18446744073709551616 < i ∧ i < 18446744073709551616) || decide (-18446744073709551616 < j ∧ j < 18446744073709551616)
def divOk (j : Int) : Bool := decide (0 < j ∧ j < 18446744073709551616)
def rep {α : Type} (n : Nat) (xs : List α) : List α := (List.replicate n xs).flatten
def Str.rep (n : Nat) (s : Str) : Str := ⟨(FJ.rep n s.cps.toList).toArray⟩
def binD : Bop → D → D → Option T
  | .add, .int i, .int j => some (.fr (.int (i + j)))
  | .add, .str a, .str b => if a.length + b.length ≤ sizeLine then some (.fr (.str (a ++ b))) else none
  | .add, .lst a, .lst b => if a.length + b.length ≤ sizeLine then some (.ow (.lst (a ++ b))) else none
  | .add, .tup a, .tup b => if a.length + b.length ≤ sizeLine then some (.fr (.tup (a ++ b))) else none
  | .sub, .int i, .int j => some (.fr (.int (i - j)))
  | .mul, .int i, .int j => if mulOk i j then some (.fr (.int (i * j))) else none
  | .mul, .lst a, .int j => if -9223372036854775808 ≤ j ∧ j < 9223372036854775808 ∧ a.length * j.toNat ≤ sizeLine then some (.ow (.lst (rep j.toNat a))) else none
  | .fdiv, .int i, .int j => if divOk j then some (.fr (.int (i / j))) else none
  | .mod, .int i, .int j => if 0 < j then some (.fr (.int (i % j))) else none
  | .pow, .int i, .int j => if 0 ≤ j ∧ j ≤ 1000000 ∧ i.natAbs < 18446744073709551616 then some (.fr (.int (i ^ j.toNat))) else none
  | _, _, _ => none

mutual
def D.py : D → PyData
  | .non => .none | .bl b => .bool b | .int i => .int i | .str s => .str s
  | .tup xs => .tuple (D.pys xs) | .lst xs => .list (D.pys xs)
  | .dK _ _ => .dict [] | .dT _ _ => .dict [] | .obj _ _ => .dict [] | .scr _ => .dict [] | .tab _ _ _ => .dict []
def D.pys : List D → List PyData
  | [] => [] | d :: ds => D.py d :: D.pys ds
end
mutual
/-- data of None, truths, numbers, texts, lists, tuples, at most n deep -/
def D.plain : Nat → D → Bool
  | _, .non => true | _, .bl _ => true | _, .int _ => true | _, .str _ => true
  | 0, .tup _ => false | 0, .lst _ => false
  | n + 1, .tup xs => D.plains n xs | n + 1, .lst xs => D.plains n xs
  | _, .dK _ _ => false | _, .dT _ _ => false | _, .obj _ _ => false | _, .scr _ => false | _, .tab _ _ _ => false
def D.plains : Nat → List D → Bool
  | _, [] => true | n, d :: ds => D.plain n d && D.plains n ds
end
mutual
/-- may two things be compared -/
def cmpble : Nat → D → D → Bool
  | n + 1, .tup xs, .tup ys => cmpbles n xs ys
  | n + 1, .lst xs, .lst ys => xs.length != ys.length || cmpbles n xs ys
  | n, a, b => a.plain n && b.plain n
def cmpbles : Nat → List D → List D → Bool
  | n, x :: xs, y :: ys => cmpble n x y && cmpbles n xs ys
  | _, _, _ => true
end
/-- are two things equal -/
def eqD (a b : D) : Option Bool := if cmpble 60 a b then some (PyData.eqv a.py b.py) else none
def keyOf : D → Option Key
  | .int i => some (.inl i)
  | .str s => some (.inr s)
  | _ => none
def keysOf : List D → Option (List Key)
  | [] => some []
  | d :: ds => match keyOf d, keysOf ds with
    | some k, some ks => some (k :: ks)
    | _, _ => none
def look2 {κ α : Type} [DecidableEq κ] (k : κ) : List κ → List α → Option α
  | q :: ks, x :: xs => if q = k then some x else look2 k ks xs
  | _, _ => none
def inD : D → D → Option Bool
  | .str a, .str z => match a.cps.toList with
    | [c] => some (decide (c ∈ z.cps.toList))
    | _ => none
  | .str k, .tab ks _ ms => if ks.contains k then some true else if ms.contains k then some false else none
  | x, .lst ds => if x.plain 59 && D.plains 59 ds then some (ds.any fun y => PyData.eqv y.py x.py) else none
  | x, .dK ks ds => (keyOf x).map fun k => (look2 k ks ds).isSome
  | x, .tup ds => if x.plain 59 && D.plains 59 ds then some (ds.any fun y => PyData.eqv y.py x.py) else none
  | _, _ => none
def cmpD : Cop → D → D → Option Bool
  | .lt, .int i, .int j => some (decide (i < j))
  | .le, .int i, .int j => some (decide (i ≤ j))
  | .gt, .int i, .int j => some (decide (j < i))
  | .ge, .int i, .int j => some (decide (j ≤ i))
  | .eq, a, b => eqD a b
  | .ne, a, b => (eqD a b).map (! ·)
  | .inn, a, b => inD a b
  | .nin, a, b => (inD a b).map (! ·)
  | .isn, a, .non => some (match a with | .non => true | _ => false)
  | .isnt, a, .non => some (match a with | .non => false | _ => true)
  | .isn, .bl a, .bl b => some (a == b)
  | .isn, .non, .bl _ => some false
  | .isnt, .bl a, .bl b => some (!(a == b))
  | .isnt, .non, .bl _ => some true
  | _, _, _ => none
abbrev ixI := ixN
abbrev at_ {α : Type} (xs : List α) (i : Int) : Option α := atI xs i
def idxD : D → D → Option D
  | .tab ks ds _, .str k => look2 k ks ds
  | .scr ns, .int j => (at_ ns j).map .int
  | .lst ds, .int j => at_ ds j
  | .tup ds, .int j => at_ ds j
  | .str z, .int j => if z.length ≤ sizeLine then (match at_ z.cps.toList j with | some c => some (.str ⟨#[c]⟩) | none => none) else none
  | .dK ks vs, k => match keyOf k with
    | some k => look2 k ks vs
    | none => none
  | .dT ks vs, .tup xs => match keysOf xs with
    | some k => look2 k ks vs
    | none => none
  | _, _ => none
abbrev sIxI := HT.sIx
def cut {α : Type} (xs : List α) (lo hi : Option Int) : List α := (xs.drop (HT.sIx xs.length 0 lo)).take (HT.sIx xs.length xs.length hi - HT.sIx xs.length 0 lo)
def sliD : D → Option Int → Option Int → Option T
  | .scr ns, lo, hi => some (.ow (.lst ((cut ns lo hi).map .int)))
  | .lst ds, lo, hi => some (.ow (.lst (cut ds lo hi)))
  | .tup ds, lo, hi => some (.fr (.tup (cut ds lo hi)))
  | .str z, lo, hi => if z.length ≤ sizeLine then some (.fr (.str (cutS z lo hi))) else none
  | _, _, _ => none
def partD : D → Option (Option Int)
  | .int i => some (some i)
  | _ => none
def fldD (f : Nat → Option Nat) : D → Option D
  | .obj c ds => match f c with
    | some k => ds[k]?
    | none => none
  | _ => none
def isD : Ty → D → Option Bool
  | .cls _ sub, .obj c _ => some (sub.contains c)
  | .cls _ _, _ => none
  | _, .obj _ _ => none
  | _, .tab _ _ _ => none
  | .int, .int _ => some true | .int, .bl _ => some true
  | .str, .str _ => some true | .bool, .bl _ => some true
  | .list, .lst _ => some true | .tuple, .tup _ => some true | .list, .scr _ => some true
  | .dict, .dK _ _ => some true | .dict, .dT _ _ => some true
  | _, _ => some false
def intsOf : List D → Option (List Int)
  | [] => some []
  | .int i :: ds => (intsOf ds).map (i :: ·)
  | _ => none
def blsOf : List D → Option (List Bool)
  | [] => some []
  | .bl i :: ds => (blsOf ds).map (i :: ·)
  | _ => none
def listsOf : List D → Option (List (List D))
  | [] => some []
  | .lst es :: ds => (listsOf ds).map (es :: ·)
  | _ => none
def maxI : Int → List Int → Int
  | m, [] => m
  | m, x :: xs => maxI (if x > m then x else m) xs
def minI : Int → List Int → Int
  | m, [] => m
  | m, x :: xs => minI (if x < m then x else m) xs
def biD : BI → List D → Option T
  | .len, [.scr ns] => some (.fr (.int ns.length))
  | .len, [.lst ds] => some (.fr (.int ds.length))
  | .len, [.tup ds] => some (.fr (.int ds.length))
  | .len, [.str z] => if z.length ≤ sizeLine then some (.fr (.int z.length)) else none
  | .len, [.dK _ vs] => some (.fr (.int vs.length))
  | .len, [.dT _ vs] => some (.fr (.int vs.length))
  | .list, [.lst ds] => some (.ow (.lst ds))
  | .list, [.tup ds] => some (.ow (.lst ds))
  | .tuple, [.lst ds] => some (.fr (.tup ds))
  | .tuple, [.tup ds] => some (.fr (.tup ds))
  | .int, [.int i] => some (.fr (.int i))
  | .int, [.bl b] => some (.fr (.int (if b then 1 else 0)))
  | .divmod, [.int i, .int j] => if 0 < j ∧ j < 1073741824 then some (.fr (.tup [.int (i / j), .int (i % j)])) else none
  | .sum2, [.lst ds, .lst es] => match listsOf ds with
    | some ls => if ds ≠ [] ∧ (es ++ ls.flatten).length ≤ sizeLine then some (.ow (.lst (es ++ ls.flatten))) else none
    | none => none
  | .sum, [.lst ds] => (intsOf ds).map fun ns => .fr (.int ns.sum)
  | .all, [.lst ds] => (blsOf ds).map fun bs => .fr (.bl (bs.all id))
  | .any, [.lst ds] => (blsOf ds).map fun bs => .fr (.bl (bs.any id))
  | .max, [.int i, .int j] => some (.fr (.int (if j > i then j else i)))
  | .min, [.int i, .int j] => some (.fr (.int (if j < i then j else i)))
  | _, _ => none
def atomD : D → Bool
  | .non => true | .bl _ => true | .int _ => true | .str _ => true | _ => false
def mtD : MT → D → List D → Option T
  | .get, .tab ks ds ms, [.str k, d] => match look2 k ks ds with
    | some v => some (.fr v)
    | none => if ms.contains k && atomD d then some (.fr d) else none
  | .upper, .str a, [] => if a.length ≤ 5592405 then some (.fr (.str (Txt.upper a))) else none
  | _, _, _ => none
/-- truth -/
def truD : D → Option Bool
  | .non => some false | .bl b => some b | .int i => some (i != 0)
  | .lst ds => some (!ds.isEmpty)
  | _ => none

mutual
def Tg.slots : Tg → List Nat
  | .name i => [i]
  | .tup ts => Tg.slotss ts
def Tg.slotss : List Tg → List Nat
  | [] => [] | t :: ts => t.slots ++ Tg.slotss ts
end
mutual
/-- a value that stands still is bound to a target -/
def Tg.bind : Tg → D → Env → Option Env
  | .name i, d, r => some (r.set i (some (.fr d)))
  | .tup ts, .tup ds, r => Tg.binds ts ds r
  | .tup _, _, _ => none
def Tg.binds : List Tg → List D → Env → Option Env
  | [], [], r => some r
  | t :: ts, d :: ds, r => match t.bind d r with
    | some r => Tg.binds ts ds r
    | none => none
  | _, _, _ => none
end
def wipeE : List Nat → Env → Env
  | [], r => r
  | i :: is, r => (wipeE is r).set i none
/-- the slots' own again -/
def backE (r0 : Env) : List Nat → Env → Env
  | [], r => r
  | i :: is, r => match r0[i]? with
    | some o => (backE r0 is r).set i o
    | none => backE r0 is r
def stillE (r : Env) : List Nat → Bool
  | [] => true
  | i :: is => (match r[i]? with
    | some (some (.fr _)) => true
    | some none => true
    | _ => false) && stillE r is
def hideE : Option (Nat × T) → Env → Env
  | some (i, _), r => r.set i none
  | none, r => r
def showE : Option (Nat × T) → Env → Env
  | some (i, t), r => r.set i (some t)
  | none, r => r
def seqD : D → Option (List D)
  | .scr ns => some (ns.map .int)
  | .lst ds => some ds
  | .tup ds => some ds
  | .str z => some (z.cps.toList.map fun c => .str ⟨#[c]⟩)
  | _ => none
def freeE : Option (Nat × T) → List Nat → Bool
  | some (i, _), as => !as.contains i
  | none, _ => true
def rngD : List D → Option (List D)
  | [.int n] => if -4611686018427387904 ≤ n ∧ n < 4611686018427387904 then some ((List.range n.toNat).map fun (i : Nat) => .int i) else none
  | [.int a, .int b] => if -4611686018427387904 ≤ a ∧ a < 4611686018427387904 ∧ -4611686018427387904 ≤ b ∧ b < 4611686018427387904 then some ((List.range (b - a).toNat).map fun (i : Nat) => .int (a + i)) else none
  | _ => none
def enumD : Nat → List D → List D
  | _, [] => []
  | k, d :: ds => .tup [.int k, d] :: enumD (k + 1) ds
def zipD : List D → List D → List D
  | a :: as, b :: bs => .tup [a, b] :: zipD as bs
  | _, _ => []
def itmsD : List Str → List D → List D
  | k :: ks, d :: ds => .tup [.str k, d] :: itmsD ks ds
  | _, _ => []
def itemsD : List Key → List D → List D
  | k :: ks, d :: ds => .tup [(match k with | .inl i => .int i | .inr s => .str s), d] :: itemsD ks ds
  | _, _ => []
/-- a comprehension's turns -/
def compL (cf : Env → Option (Bool × Env)) (ef : Env → R) (tg : Tg) : List D → Env → List D → RL
  | [], r, acc => .ok acc r
  | d :: ds, r, acc => match tg.bind d r with
    | none => .stuck
    | some r => match cf r with
      | none => .stuck
      | some (false, r) => compL cf ef tg ds (wipeE tg.slots r) acc
      | some (true, r) => match ef r with
        | .stuck => .stuck
        | .ok x r => if acc.length < sizeLine then compL cf ef tg ds (wipeE tg.slots (useE false x r)) (acc ++ [x.toD]) else .stuck
def R.tru (r : R) : Option (Bool × Env) := match r with
  | .ok x e => match truD x.toD with
    | some b => some (b, lookE true x e)
    | none => none
  | .stuck => none
/-- what was changed is laid back -/
def putBack : Ar → List Bool → Env → Env → Env
  | .ci _ as, _ :: io, _ :: ts, r => putBack as io ts r
  | .cx i as, _ :: io, t :: ts, r => putBack as io ts (r.set i t)
  | .ct _ as, _ :: io, _ :: ts, r => putBack as io ts r
  | _, _, _, r => r

/-- a part of what a slot owns -/
def brw (i : Nat) : T → Val
  | .fr d => .v (.fr d)
  | t => .b i t
/-- an item of a tuple that a slot owns with its parts -/
def subO (q : R) (k : Nat) : Option R := match q with
  | .ok (.b i (.nt ts)) r => some (match ts[k]? with
    | some t => .ok (brw i t) r
    | none => .stuck)
  | _ => none
mutual
def ev : E → Env → R
  | .var i, r => match r[i]? with
    | some (some (.fr d)) => F d r
    | some (some t) => .ok (.b i t) r
    | _ => .stuck
  | .cst d, r => F d r
  | .neg a, r => (ev a r).use true fun d r => match d with
    | .int i => F (.int (-i)) r
    | _ => .stuck
  | .bin o a b, r => (ev a r).use b.pu fun x r => (ev b r).use true fun y r => ofT (binD o x y) r
  | .cmp o a b, r => (ev a r).look b.pu fun x r => (ev b r).look true fun y r => ofD ((cmpD o x y).map .bl) r
  | .chain o u a b c, r => (ev a r).look b.pu fun x r => (ev b r).look c.pu fun y r => match cmpD o x y with
    | some true => (ev c r).look true fun z r => ofD ((cmpD u y z).map .bl) r
    | some false => F (.bl false) r
    | none => .stuck
  | .and a b, r => (ev a r).look true fun x r => match x with
    | .bl true => ev b r
    | .bl false => F (.bl false) r
    | _ => .stuck
  | .or a b, r => (ev a r).look true fun x r => match x with
    | .bl false => ev b r
    | .bl true => F (.bl true) r
    | _ => .stuck
  | .not a, r => match (ev a r).tru with
    | some (b, r) => F (.bl (!b)) r
    | none => .stuck
  | .ite c a b, r => match (ev c r).tru with
    | some (true, r) => ev a r
    | some (false, r) => ev b r
    | none => .stuck
  | .tupo as, r => match eva as r with
    | .ok ts r => if ts.length ≤ sizeLine then .ok (.v (.nt ts)) r else .stuck
    | .stuck => .stuck
  | .sub a k, r => match subO (ev a r) k with
    | some q => q
    | none => (ev a r).use true fun x r => ofD (idxD x (.int k)) r
  | .lend e, r => match ev e r with
    | .ok x _ => if e.pu && atomD x.toD then .ok (.v (.fr x.toD)) r else .stuck
    | .stuck => .stuck
  | .tup es, r => match evs es r with
    | .ok ds r => if ds.length ≤ sizeLine then F (.tup ds) r else .stuck
    | .stuck => .stuck
  | .lst es, r => match evs es r with
    | .ok ds r => if ds.length ≤ sizeLine then .ok (.v (.ow (.lst ds))) r else .stuck
    | .stuck => .stuck
  | .dct ks vs, r => match evs vs r with
    | .ok ds r => if ks.Nodup ∧ ks.length = ds.length ∧ ks ≠ [] ∧ ks.length ≤ 15 then .ok (.v (.ow (.dK ks ds))) r else .stuck
    | .stuck => .stuck
  | .dnew t, r => .ok (.v (.ow (if t then .dT [] [] else .dK [] []))) r
  | .idx a b, r => (ev a r).use b.pu fun x r => (ev b r).use true fun k r => ofD (idxD x k) r
  | .sli a lo hi, r => (ev a r).use (lo.pu && hi.pu) fun x r => match evo lo r with
    | some (l, r) => match evo hi r with
      | some (h, r) => ofT (sliD x l h) r
      | none => .stuck
    | none => .stuck
  | .fld a f, r => (ev a r).use true fun x r => ofD (fldD f x) r
  | .isi a t, r => (ev a r).look true fun d r => ofD ((isD t d).map .bl) r
  | .bi f es, r => match evu es r with
    | .ok ds r => ofT (biD f ds) r
    | .stuck => .stuck
  | .mt m a es, r => (ev a r).use es.pu fun x r => match evu es r with
    | .ok ds r => ofT (mtD m x ds) r
    | .stuck => .stuck
  | .call f as, r => match eva as r with
    | .ok ts r => match f.run ts with
      | some (t, rp) => .ok (.v t) (putBack as f.io rp r)
      | none => .stuck
    | .stuck => .stuck
  | .new c f as, r => match eva as r with
    | .ok ts r => match f.run (.ow (.obj c []) :: ts) with
      | some (.fr .non, some t :: rp) => .ok (.v t) (putBack as f.io.tail rp r)
      | _ => .stuck
    | .stuck => .stuck
  | .meth ms as, r => match eva as r with
    | .ok (t :: ts) r => match t.toD with
      | .obj c _ => match ms c with
        | some f => match f.run (t :: ts) with
          | some (u, rp) => .ok (.v u) (putBack as f.io rp r)
          | none => .stuck
        | none => .stuck
      | _ => .stuck
    | _ => .stuck
  | .comp e tg it cd, r => match evi it r with
    | .ok ds hid r0 => if stillE (hideE hid r0) tg.slots then
        match compL (fun r => evc cd r) (fun r => ev e r) tg ds (wipeE tg.slots (hideE hid r0)) [] with
        | .ok ds r => .ok (.v (.ow (.lst ds))) (showE hid (backE (hideE hid r0) tg.slots r))
        | .stuck => .stuck
      else .stuck
    | .stuck => .stuck
/-- displays, arguments: each stands still -/
def evs : Es → Env → RL
  | .nil, r => .ok [] r
  | .cons e es, r => match ev e r with
    | .ok x r => match evs es (useE false x r) with
      | .ok ds r => .ok (x.toD :: ds) r
      | .stuck => .stuck
    | .stuck => .stuck
/-- arguments of what is built in -/
def evu : Es → Env → RL
  | .nil, r => .ok [] r
  | .cons e es, r => match ev e r with
    | .ok x r => match evu es (useE es.pu x r) with
      | .ok ds r => .ok (x.toD :: ds) r
      | .stuck => .stuck
    | .stuck => .stuck
def evo : Oe → Env → Option (Option Int × Env)
  | .no, r => some (none, r)
  | .so e, r => match ev e r with
    | .ok x r => match x.toD with
      | .int i => some (some i, lookE true x r)
      | _ => none
    | .stuck => none
def evc : Oe → Env → Option (Bool × Env)
  | .no, r => some (true, r)
  | .so e, r => (ev e r).tru
def evi : It → Env → RI
  | .lst e, r => match ev e r with
    | .ok (.v t) r => match seqD t.toD with
      | some ds => .ok ds none r
      | none => .stuck
    | .ok (.b i (.ow (.lst ds))) r => match r[i]? with
      | some (some (.ow (.lst _))) => .ok ds (some (i, .ow (.lst ds))) r
      | _ => .stuck
    | _ => .stuck
  | .lstf e, r => match ev e r with
    | .ok x r => match seqD x.toD with
      | some ds => .ok ds none (useE false x r)
      | none => .stuck
    | .stuck => .stuck
  | .rng es, r => match evu es r with
    | .ok ds r => match rngD ds with
      | some ds => .ok ds none r
      | none => .stuck
    | .stuck => .stuck
  | .enu e, r => match ev e r with
    | .ok x r => match x.toD with
      | .lst ds => .ok (enumD 0 ds) none (useE false x r)
      | _ => .stuck
    | .stuck => .stuck
  | .zip a b, r => match ev a r with
    | .ok x r => match ev b (useE false x r) with
      | .ok y r => match x.toD, y.toD with
        | .lst ds, .lst es => .ok (zipD ds es) none (useE false y r)
        | _, _ => .stuck
      | .stuck => .stuck
    | .stuck => .stuck
  | .itm e, r => match ev e r with
    | .ok x r => match x.toD with
      | .tab ks ds _ => .ok (itmsD ks ds) none (useE false x r)
      | _ => .stuck
    | .stuck => .stuck
  | .val _, _ => .stuck
def eva : Ar → Env → RA
  | .nil, r => .ok [] r
  | .ci e as, r => match ev e r with
    | .ok x r => match eva as (useE false x r) with
      | .ok ts r => .ok (.fr x.toD :: ts) r
      | .stuck => .stuck
    | .stuck => .stuck
  | .cx i as, r => match r[i]? with
    | some (some t) => match eva as (r.set i none) with
      | .ok ts r => .ok (t :: ts) r
      | .stuck => .stuck
    | _ => .stuck
  | .ct e as, r => match ev e r with
    | .ok x r => match eva as (useE false x r) with
      | .ok ts r => .ok ((match x with
        | .v t => t
        | .b _ t => .fr t.toD) :: ts) r
      | .stuck => .stuck
    | .stuck => .stuck
end

/-! ### statements -/
inductive S where
  | expr (e : E) | asg (tg : Tg) (e : E) | aug (i : Nat) (o : Bop) (e : E)
  | ife (c : E) (a b : S) | for (tg : Tg) (it : It) (b : S) | whl (n : Nat) (c : E) (b : S)
  | ret (e : E) | retv (i : Nat) | retN | pass | brk | cont | seq (a b : S)
  | appP (i k : Nat) (e : E) | tryE (b els : S) | raise
  | app (i : Nat) (e : E) | seti (i : Nat) (k e : E) | setf (i : Nat) (f : Nat → Option Nat) (e : E) | updd (i : Nat) (e : E)
/-- the slots that a statement may store to -/
def S.asgs : S → List Nat
  | .asg tg _ => tg.slots | .aug i _ _ => [i]
  | .tryE a b => a.asgs ++ b.asgs
  | .ife _ a b => a.asgs ++ b.asgs | .for tg _ b => tg.slots ++ b.asgs | .whl _ _ b => b.asgs | .seq a b => a.asgs ++ b.asgs
  | _ => []
def O.seq (o : O) (k : Env → O) : O := match o with
  | .nx r => k r
  | o => o
def forL (bf : Env → O) (tg : Tg) : List D → Env → O
  | [], r => .nx r
  | d :: ds, r => match tg.bind d r with
    | none => .stuck
    | some r => match bf r with
      | .nx r => forL bf tg ds r
      | .ct r => forL bf tg ds r
      | .bk r => .nx r
      | .rt t r => .rt t r
      | .stuck => .stuck
def whlL (cf : Env → Option (Bool × Env)) (bf : Env → O) : Nat → Env → O
  | 0, _ => .stuck
  | n + 1, r => match cf r with
    | none => .stuck
    | some (false, r) => .nx r
    | some (true, r) => match bf r with
      | .nx r => whlL cf bf n r
      | .ct r => whlL cf bf n r
      | .bk r => .nx r
      | .rt t r => .rt t r
      | .stuck => .stuck
/-- assignment: a name takes what is its own, else it stands still -/
def asgE (tg : Tg) (x : Val) (r : Env) : Option Env := match tg, x with
  | .name i, .v t => match r[i]? with
    | some _ => some (r.set i (some t))
    | none => none
  | tg, x => tg.bind x.toD (useE false x r)
def setD : D → D → D → Option D
  | .lst ds, .int j, d => match ixI ds.length j with
    | some k => some (.lst (ds.set k d))
    | none => none
  | _, _, _ => none
def evS : S → Env → O
  | .expr e, r => match ev e r with
    | .ok _ r => .nx r
    | .stuck => .stuck
  | .asg tg e, r => match ev e r with
    | .ok x r => match asgE tg x r with
      | some r => .nx r
      | none => .stuck
    | .stuck => .stuck
  | .aug i o e, r => match r[i]? with
    | some (some (.fr (.int a))) => match ev e r with
      | .ok x r => match o, x.toD with
        | .add, .int b => .nx ((useE false x r).set i (some (.fr (.int (a + b)))))
        | .sub, .int b => .nx ((useE false x r).set i (some (.fr (.int (a - b)))))
        | _, _ => .stuck
      | .stuck => .stuck
    | _ => .stuck
  | .ife c a b, r => match (ev c r).tru with
    | some (true, r) => evS a r
    | some (false, r) => evS b r
    | none => .stuck
  | .for tg it b, r => match evi it r with
    | .ok ds hid r => match forL (fun r => evS b r) tg ds (hideE hid r) with
      | .nx r => if freeE hid (tg.slots ++ b.asgs) then .nx (showE hid r) else .stuck
      | o => o
    | .stuck => .stuck
  | .whl n c b, r => whlL (fun r => (ev c r).tru) (fun r => evS b r) n r
  | .ret e, r => match ev e r with
    | .ok (.v t) r => .rt t r
    | .ok (.b i t) r => .rt (.fr t.toD) (frz i r)
    | .stuck => .stuck
  | .retv i, r => match r[i]? with
    | some (some t) => .rt t (r.set i none)
    | _ => .stuck
  | .retN, r => .rt (.fr .non) r
  | .pass, r => .nx r
  | .raise, _ => .stuck
  | .tryE b els, r => (evS b r).seq fun r => evS els r
  | .appP i k e, r => if e.pu = true then match r[i]? with
    | some (some (.nt ts)) => match ts[k]? with
      | some (.ow (.lst _)) => match ev e r with
        | .ok x r => match (useE false x r)[i]? with
          | some (some (.nt ts)) => match ts[k]? with
            | some (.ow (.lst ds)) => if ds.length < sizeLine then .nx ((useE false x r).set i (some (.nt (ts.set k (.ow (.lst (ds ++ [x.toD]))))))) else .stuck
            | _ => .stuck
          | _ => .stuck
        | .stuck => .stuck
      | _ => .stuck
    | _ => .stuck
    else .stuck
  | .brk, r => .bk r
  | .cont, r => .ct r
  | .seq a b, r => (evS a r).seq fun r => evS b r
  | .app i e, r => match r[i]? with
    | some (some (.ow (.lst _))) => match ev e r with
      | .ok x r => match (useE false x r)[i]? with
        | some (some (.ow (.lst ds))) => if ds.length < sizeLine then .nx ((useE false x r).set i (some (.ow (.lst (ds ++ [x.toD]))))) else .stuck
        | _ => .stuck
      | .stuck => .stuck
    | _ => .stuck
  | .seti i k e, r => match r[i]? with
    | some (some _) => match ev e r with
      | .ok x r => match ev k (useE false x r) with
        | .ok y r => match (useE false y r)[i]? with
          | some (some (.ow d)) => match setD d y.toD x.toD with
            | some d => .nx ((useE false y r).set i (some (.ow d)))
            | none => .stuck
          | _ => .stuck
        | .stuck => .stuck
      | .stuck => .stuck
    | _ => .stuck
  | .setf i f e, r => match r[i]? with
    | some (some _) => match ev e r with
      | .ok x r => match (useE false x r)[i]? with
        | some (some (.ow (.obj c ds))) => match f c with
          | some k => if k < ds.length then .nx ((useE false x r).set i (some (.ow (.obj c (ds.set k x.toD)))))
              else if k = ds.length then .nx ((useE false x r).set i (some (.ow (.obj c (ds ++ [x.toD]))))) else .stuck
          | none => .stuck
        | _ => .stuck
      | .stuck => .stuck
    | _ => .stuck
  | .updd i e, r => match r[i]? with
    | some (some (.ow (.dK _ _))) => match ev e r with
      | .ok x r => match (useE false x r)[i]?, x.toD with
        | some (some (.ow (.dK ks ds))), .dK ls es => if ks.length + ls.length ≤ sizeLine ∧ (ks ++ ls).Nodup ∧ ks.length = ds.length then .nx ((useE false x r).set i (some (.ow (.dK (ks ++ ls) (ds ++ es))))) else .stuck
        | _, _ => .stuck
      | .stuck => .stuck
    | _ => .stuck
/-- a def's own: n slots in all, the parameters' first -/
def mkFn (n : Nat) (io : List Bool) (b : S) : Fn where
  io := io
  run := fun ts => if ts.length = io.length then
    match evS b (ts.map some ++ List.replicate (n - io.length) none) with
    | .nx r => some (.fr .non, r.take io.length)
    | .rt t r => some (t, r.take io.length)
    | _ => none
    else none
end FJ

/-! From the text to the small language. -/
namespace FJ
open PySem L2

/-- what a module's name stands for -/
inductive GI where
  | fn (f : Fn) | con (d : D) | blt | cls (k : Nat) (f : Option Fn)
/-- where a text stands: its names by slot, its scope, which names it may store to, the module's names, the classes under each -/
structure Cc where
  N : List Str
  sc : Scope
  cellOk : Str → Bool
  g : Str → Option GI
  np : Nat
  cp : List (Nat × Nat)
  tds : List Str
  fl : Str → Nat → Option Nat
  ms : Str → Option (List Bool × (Nat → Option Fn))
  lp : List (Nat × Nat)

def slotOf (x : Str) : List Str → Option Nat
  | [] => none
  | y :: r => if y = x then some 0 else (slotOf x r).map (· + 1)
def visB (sc : Scope) (x : Str) : Bool := match sc.names.lookup x with
  | some .local => true | some .cell => true | some .free => true | _ => false
def gloB (sc : Scope) (x : Str) : Bool := match sc.names.lookup x with
  | some .globalImplicit => true | _ => false
def locB (c : Cc) (x : Str) : Bool := match c.sc.names.lookup x with
  | some .local => true | some .cell => c.cellOk x | _ => false
def dbg (x : Str) : Bool := x == ("__debug__" : Str)
def gOf (c : Cc) (x : Str) : Option GI := if gloB c.sc x && !dbg x && decide (x ≠ "__name__") then c.g x else none
def bltB (c : Cc) (x : Str) : Bool := match gOf c x with | some .blt => true | _ => false
def binOp : Operator → Option Bop
  | .Add => some .add | .Sub => some .sub | .Mult => some .mul | .FloorDiv => some .fdiv | .Mod => some .mod | .Pow => some .pow
  | _ => none
def cmpOp : CmpOp → Cop
  | .Eq => .eq | .NotEq => .ne | .Lt => .lt | .LtE => .le | .Gt => .gt | .GtE => .ge | .Is => .isn | .IsNot => .isnt | .In => .inn | .NotIn => .nin
def notStar : Expr → Bool
  | .Starred .. => false | _ => true
def noStars (es : List Expr) : Bool := es.all notStar
def isSlice : Expr → Bool
  | .Slice .. => true | _ => false
def isComp : Expr → Bool
  | .ListComp .. => true | .SetComp .. => true | .DictComp .. => true | _ => false
def isSet : Expr → Bool
  | .Set .. => true | _ => false
def isTup : Expr → Bool
  | .Tuple .. => true | _ => false
def isTest : Expr → Bool
  | .UnaryOp .Not _ _ => true | .BoolOp .. => true | .IfExp .. => true | .Compare .. => true | _ => false
def baseOk : Expr → Bool
  | .Call (.Name id _) [] [] _ => decide (id ≠ "super") | _ => true
def biOf (x : Str) : Option BI :=
  if x = "len" then some .len else if x = "all" then some .all else if x = "any" then some .any else if x = "sum" then some .sum
  else if x = "divmod" then some .divmod else if x = "max" then some .max else if x = "min" then some .min else none
def btOf (x : Str) : Option BI :=
  if x = "list" then some .list else if x = "tuple" then some .tuple else if x = "int" then some .int else none
def tyOf (c : Cc) : Expr → Option Ty
  | .Name x _ => match gOf c x with
    | some .blt => if x = "int" then some .int else if x = "str" then some .str else if x = "bool" then some .bool else if x = "list" then some .list
        else if x = "tuple" then some .tuple else if x = "dict" then some .dict else none
    | _ => none
  | _ => none
def isPair : It → Bool
  | .enu _ => true | .zip _ _ => true | .itm _ => true | _ => false
def keyE : Option Expr → Option Key
  | some (.Constant (.str s) _ _) => some (.inr s)
  | some (.Constant (.int i) _ _) => some (.inl i)
  | _ => none
def keysE : List (Option Expr) → Option (List Key)
  | [] => some []
  | e :: r => match keyE e, keysE r with
    | some k, some ks => some (k :: ks)
    | _, _ => none
def posOf : Expr → Nat × Nat
  | .Name _ p => (p.line, p.col)
  | .Tuple _ _ p => (p.line, p.col)
  | .Subscript _ _ p => (p.line, p.col)
  | _ => (0, 0)
def lpB (c : Cc) : Expr → Bool
  | .Compare _ _ _ p => c.lp.contains (p.line, p.col)
  | .BoolOp _ _ p => c.lp.contains (p.line, p.col)
  | .UnaryOp _ _ p => c.lp.contains (p.line, p.col)
  | _ => false
def cstOf : Expr → Option Nat
  | .Constant (.int (.ofNat k)) _ _ => some k
  | _ => none
def cpB (c : Cc) (e : Expr) : Bool := c.cp.contains (posOf e)
/-- a new object is at hand: a name may take it as its own -/
def scopeOfComp : Expr → Option Scope
  | .ListComp _ _ s _ => some s | _ => none
def inner (c : Cc) (scope : Scope) : Cc := { c with sc := relS scope c.sc, cellOk := fun x => decide (scope.names.lookup x = some .cell) }
def namesOf : Tg → List Str → List (Str × Nat)
  | t, N => t.slots.filterMap fun i => (N[i]?).map fun x => (x, i)

mutual
def ce : Nat → Cc → Expr → Option E
  | 0, _, _ => none
  | n + 1, c, e => match e with
    | .Name x _ => if dbg x || decide (x = "__classdict__") then none else if visB c.sc x then (slotOf x c.N).map .var else match gOf c x with
      | some (.con d) => some (.cst d)
      | _ => none
    | .Constant (.int i) _ _ => some (.cst (.int i))
    | .Constant (.bool b) _ _ => some (.cst (.bl b))
    | .Constant (.str s) _ _ => some (.cst (.str s))
    | .Constant .none _ _ => some (.cst .non)
    | .UnaryOp .USub a _ => (ce n c a).map .neg
    | .UnaryOp .Not a _ => (ce n c a).map .not
    | .BinOp a o b _ => match binOp o, ce n c a, ce n c b with
      | some o, some a, some b => some (.bin o a b)
      | _, _, _ => none
    | .Compare a [o] [b] _ => if behindInMarks o b then none else match ce n c a, ce n c b with
      | some a, some b => some (.cmp (cmpOp o) a b)
      | _, _ => none
    | .Compare a [o, u] [b, d] _ => if isSet b || isSet d then none else match ce n c a, ce n c b, ce n c d with
      | some a, some b, some d => some (.chain (cmpOp o) (cmpOp u) a b d)
      | _, _, _ => none
    | .BoolOp .And (a :: r) _ => cand n c a r
    | .BoolOp .Or (a :: r) _ => cor n c a r
    | .IfExp t a b _ => match ce n c t, ce n c a, ce n c b with
      | some t, some a, some b => some (.ite t a b)
      | _, _, _ => none
    | .Tuple es k p => if cpB c (.Tuple es k p) && noStars es then (car n c (es.map fun _ => true) es).map .tupo else (ces n c es).map .tup
    | .List es _ => (ces n c es).map .lst
    | .Dict ks vs _ => match ks with
      | [] => (match vs with
        | [] => some (.dnew false)
        | _ :: _ => none)
      | _ :: _ => match keysE ks, ces n c vs with
        | some k, some ws => if ks.length = vs.length ∧ ks.length ≤ 15 then some (.dct k ws) else none
        | _, _ => none
    | .Attribute a m _ => if baseOk a then (ce n c a).map fun a => .fld a (c.fl m) else none
    | .Subscript a (.Slice lo hi none _) _ => match ce n c a, co n c lo, co n c hi with
      | some a, some lo, some hi => some (.sli a lo hi)
      | _, _, _ => none
    | .Subscript a b p => if isSlice b then none else match ce n c a, ce n c b with
      | some ea, some eb => (match cstOf b with
        | some k => if cpB c (.Subscript a b p) then some (.sub ea k) else some (.idx ea eb)
        | none => some (.idx ea eb))
      | _, _ => none
    | .Call (.Name x _) es [] _ => if !noStars es then none else match gOf c x with
      | some (.fn f) => if f.io.length = es.length then (car n c f.io es).map (.call f) else none
      | some (.cls k (some f)) => (match f.io with
        | true :: io => if io.length = es.length then (car n c io es).map (.new k f) else none
        | _ => none)
      | some .blt => if decide (x = "isinstance") then (match es with
          | [a, t] => match ce n c a, tyOf c t with
            | some a, some t => some (.isi a t)
            | _, _ => none
          | _ => none)
        else if decide (x = "sum") && decide (es.length = 2) then (ces n c es).map (.bi .sum2)
        else match biOf x, es with
          | some b, _ :: _ => (ces n c es).map (.bi b)
          | _, _ => match btOf x, es with
            | some b, _ :: _ => (ces n c es).map (.bi b)
            | _, _ => none
      | _ => none
    | .Call (.Attribute a m ap) es [] cp => if baseOk a && (ap.endLine == cp.line) then (
        if decide (m = "upper") then (match es with
          | [] => (ce n c a).map fun a => .mt .upper a .nil
          | _ :: _ => none)
        else if decide (m = "get") && (decide (es.length = 2) && noStars es) then (match ce n c a, ces n c es with
          | some a, some es => some (.mt .get a es)
          | _, _ => none)
        else (match c.ms m with
          | some (b :: io, ms) => if noStars es && decide (es.length < 29) then (match crc n c b a, car n c io es with
            | some f, some as => some (.meth ms (f as))
            | _, _ => none) else none
          | _ => none)) else none
    | .ListComp elt [⟨tg0, iter, ifs, as⟩] scope _ => if isSet iter || decide (as ≠ 0) then none else match cit n c iter, ctg n (inner c scope) tg0 with
      | some it, some tg => if isPair it && !isTup tg0 then none else if blkC c.N c.sc scope (namesOf tg c.N) && decide ((namesOf tg c.N).map (·.2) = tg.slots) then (match ce n (inner c scope) elt, ifs with
          | some e, [] => some (.comp e tg it .no)
          | some e, [i] => (ce n (inner c scope) i).map fun i => .comp e tg it (.so i)
          | _, _ => none) else none
      | _, _ => none
    | _ => none
def cand : Nat → Cc → Expr → List Expr → Option E
  | 0, _, _, _ => none
  | n + 1, c, a, [] => ce n c a
  | n + 1, c, a, b :: r => match ce n c a, cand n c b r with
    | some a, some b => some (.and a b)
    | _, _ => none
def cor : Nat → Cc → Expr → List Expr → Option E
  | 0, _, _, _ => none
  | n + 1, c, a, [] => ce n c a
  | n + 1, c, a, b :: r => match ce n c a, cor n c b r with
    | some a, some b => some (.or a b)
    | _, _ => none
def ces : Nat → Cc → List Expr → Option Es
  | 0, _, _ => none
  | _ + 1, _, [] => some .nil
  | n + 1, c, e :: es => if notStar e then (match ce n c e, ces n c es with
    | some e, some es => some (.cons e es)
    | _, _ => none) else none
def co : Nat → Cc → Option Expr → Option Oe
  | 0, _, _ => none
  | _ + 1, _, none => some .no
  | n + 1, c, some e => (ce n c e).map .so
def car : Nat → Cc → List Bool → List Expr → Option Ar
  | 0, _, _, _ => none
  | _ + 1, _, [], [] => some .nil
  | n + 1, c, false :: io, e :: es => match ce n c e, car n c io es with
    | some e, some as => some (.ci e as)
    | _, _ => none
  | n + 1, c, true :: io, e :: es => match crc n c true e, car n c io es with
    | some f, some as => some (f as)
    | _, _ => none
  | _ + 1, _, _, _ => none
/-- how an argument is handed on -/
def crc : Nat → Cc → Bool → Expr → Option (Ar → Ar)
  | 0, _, _, _ => none
  | n + 1, c, false, e => (ce n c e).map .ci
  | n + 1, c, true, e => if cpB c e then (ce n c e).map .ct else match e with
    | .Name x _ => if dbg x || decide (x = "__classdict__") || !visB c.sc x then (ce n c e).map .ct else (slotOf x c.N).map .cx
    | e => (ce n c e).map .ct
def cit : Nat → Cc → Expr → Option It
  | 0, _, _ => none
  | n + 1, c, e => match e with
    | .Call (.Name x _) es [] _ => if bltB c x && noStars es then (
        if decide (x = "range") then (match es with
          | [_] => (ces n c es).map .rng
          | [_, _] => (ces n c es).map .rng
          | _ => none)
        else if decide (x = "enumerate") then (match es with
          | [a] => (ce n c a).map .enu
          | _ => none)
        else if decide (x = "zip") then (match es with
          | [a, b] => match ce n c a, ce n c b with
            | some a, some b => some (.zip a b)
            | _, _ => none
          | _ => none)
        else (ce n c e).map .lst)
      else (ce n c e).map .lst
    | .Call (.Attribute a m ap) es [] cp => if decide (m = "items") && (es.isEmpty && (baseOk a && (ap.endLine == cp.line))) then (ce n c a).map .itm else (ce n c e).map .lst
    | _ => if cpB c e then (ce n c e).map .lstf else (ce n c e).map .lst
def ctg : Nat → Cc → Expr → Option Tg
  | 0, _, _ => none
  | n + 1, c, e => match e with
    | .Name x _ => if locB c x then (slotOf x c.N).map .name else none
    | .Tuple es _ _ => (ctgs n c es).map .tup
    | _ => none
def ctgs : Nat → Cc → List Expr → Option (List Tg)
  | 0, _, _ => none
  | _ + 1, _, [] => some []
  | n + 1, c, e :: es => if notStar e then (match ctg n c e, ctgs n c es with
    | some e, some es => some (e :: es)
    | _, _ => none) else none
end

/-- an expression of its own -/
def capp (c : Cc) : Expr → Option S
  | .Call (.Attribute (.Name x _) m ap) [e] [] cp => if (decide (m = "append") || decide (m = "update")) && (visB c.sc x && (!dbg x && (decide (x ≠ "__classdict__") && (notStar e && (ap.endLine == cp.line))))) then (match slotOf x c.N, ce 1000 c e with
      | some i, some e => if m = "append" then some (.app i e) else some (.updd i e)
      | _, _ => none) else none
  | .Call (.Attribute (.Subscript (.Name x _) (.Constant (.int (.ofNat k)) _ _) _) m ap) [e] [] cp => if decide (m = "append") && (visB c.sc x && (!dbg x && (decide (x ≠ "__classdict__") && (notStar e && (ap.endLine == cp.line))))) then (match slotOf x c.N, ce 1000 c e with
      | some i, some e => some (.appP i k e)
      | _, _ => none) else none
  | _ => none
def cxp (c : Cc) (e : Expr) : Option S := match capp c e with
  | some s => some s
  | none => if isComp e then none else (ce 1000 c e).map .expr
/-- o.f = e, d.update(e) -/
def cfl (c : Cc) : Expr → Expr → Option S
  | .Attribute (.Name x _) m _, e => if visB c.sc x && (!dbg x && (decide (x ≠ "__classdict__") && !isComp e)) then (match slotOf x c.N, ce 1000 c e with
      | some i, some e => some (.setf i (c.fl m) e)
      | _, _ => none) else none
  | _, _ => none
/-- assignments -/
def cnew (c : Cc) (x : Str) : Expr → Option E
  | .Dict [] [] _ => some (.dnew (c.tds.contains x))
  | e => ce 1000 c e
def cpar (c : Cc) : List Expr → Expr → Option S
  | [.Name x p, .Name y q], .Tuple [a, b] _ _ => if (decide (c.sc.names.lookup x = some .local) && (decide (c.sc.names.lookup y = some .local) && ((p.line == q.line) && (decide (x ≠ y) && (notStar a && (notStar b && (!([a, b].all (foldedForSure 8)) && !([a, b].all (constantsAlone 8))))))))) then (match slotOf x c.N, slotOf y c.N, ce 1000 c a, ce 1000 c b with
      | some i, some j, some a, some b => if i = j then none else some (.asg (.tup [.name i, .name j]) (.tup (.cons a (.cons b .nil))))
      | _, _, _, _ => none) else none
  | _, _ => none
def cas (c : Cc) : Expr → Expr → Option S
  | .Name x _, e => if locB c x then (match slotOf x c.N, cnew c x e with
      | some i, some e => some (.asg (.name i) e)
      | _, _ => none) else none
  | .Tuple ts k p, e => if isTup e then cpar c ts e else if isComp e then none else (match ctg 1000 c (.Tuple ts k p), ce 1000 c e with
      | some tg, some e => some (.asg tg e)
      | _, _ => none)
  | .Subscript (.Name x _) k _, e => if visB c.sc x && (!dbg x && (decide (x ≠ "__classdict__") && (!isSlice k && !isComp e))) then (match slotOf x c.N, ce 1000 c k, ce 1000 c e with
      | some i, some k, some e => some (.seti i k e)
      | _, _, _ => none) else none
  | .Attribute o m p, e => cfl c (.Attribute o m p) e
  | _, _ => none
def caug (c : Cc) : Expr → Operator → Expr → Option S
  | .Name x _, o, e => if locB c x then (match slotOf x c.N, ce 1000 c e with
      | some i, some e => (match o with
        | .Add => some (.aug i .add e)
        | .Sub => some (.aug i .sub e)
        | _ => none)
      | _, _ => none) else none
  | _, _, _ => none
def cret (c : Cc) (e : Expr) : Option S := match e with
  | .Name x _ => if dbg x || decide (x = "__classdict__") then none else if visB c.sc x then (slotOf x c.N).map fun i => if c.np ≤ i then .retv i else .ret (.var i) else (ce 1000 c e).map .ret
  | e => (ce 1000 c e).map .ret
/-- a condition: what is read is lent where it says so -/
def cnd (c : Cc) (t : Expr) : Option E := if lpB c t then (ce 1000 c t).map .lend else ce 1000 c t
mutual
def cs : Nat → Cc → Stmt → Option S
  | 0, _, _ => none
  | n + 1, c, s => match s with
    | .Expr e _ => cxp c e
    | .Assign [tg] e _ => cas c tg e
    | .AugAssign tg o e _ => caug c tg o e
    | .If t a b _ => match cnd c t, css n c a, css n c b with
      | some t, some a, some b => some (.ife t a b)
      | _, _, _ => none
    | .For tg0 iter b [] _ => if isSet iter then none else match ctg 1000 c tg0, cit 1000 c iter, css n c b with
      | some tg, some it, some b => if isPair it && !isTup tg0 then none else some (.for tg it b)
      | _, _, _ => none
    | .While t b [] _ => match ce 1000 c t, css n c b with
      | some t, some b => some (.whl 4194304 t b)
      | _, _ => none
    | .Return (some e) _ => cret c e
    | .Return none _ => some .retN
    | .Raise _ _ _ => some .raise
    | .Try b (_ :: _) els [] _ => match css n c b, css n c els with
      | some b, some els => some (.tryE b els)
      | _, _ => none
    | .Pass _ => some .pass
    | .Break _ => some .brk
    | .Continue _ => some .cont
    | _ => none
def css : Nat → Cc → List Stmt → Option S
  | 0, _, _ => none
  | _ + 1, _, [] => some .pass
  | n + 1, c, s :: r => match r with
    | [] => cs n c s
    | _ :: _ => match cs n c s, css n c r with
      | some a, some b => some (.seq a b)
      | _, _ => none
end
end FJ

/-! States, steps, what a value may be used for. -/
namespace FJ
open PySem L2

/-- slot i owns P i; G is the part of H that stands still -/
structure Sst (C : Ct) (G H : Hp) (P : Nat → Addr → Prop) (r : Env) (σ : St) : Prop where
  len : r.length = σ.length
  gh : Same G H
  sl : ∀ (i : Nat) (t : T), r[i]? = some (some t) → ∃ v, σ[i]? = some (some v) ∧ Own C G H t v (P i)
  pe : ∀ (i : Nat) (a : Addr), P i a → ∃ t, r[i]? = some (some t)
  dj : ∀ (i j : Nat) (a : Addr), P i a → P j a → i = j
/-- from one state to a later one -/
structure Stp (G H : Hp) (P : Nat → Addr → Prop) (G' H' : Hp) (P' : Nat → Addr → Prop) : Prop where
  gg : Same G G'
  kp : ∀ (a : Addr) (o : HO), H a = some o → (∀ i, ¬ P i a) → H' a = some o
  ld : ∀ (a : Addr), H' a = none → H a = none
  pp : ∀ (i : Nat) (a : Addr), P' i a → (∃ j, P j a) ∨ H a = none
  gn : ∀ (a : Addr), G a = none → G' a ≠ none → (∃ j, P j a) ∨ H a = none
theorem Stp.refl (G H : Hp) (P : Nat → Addr → Prop) : Stp G H P G H P := ⟨Same.refl G, fun _ _ h _ => h, fun _ h => h, fun i _ h => .inl ⟨i, h⟩, fun _ h n => absurd h n⟩
theorem Stp.trans {G H G1 H1 G2 H2 : Hp} {P P1 P2 : Nat → Addr → Prop} (a : Stp G H P G1 H1 P1) (b : Stp G1 H1 P1 G2 H2 P2) : Stp G H P G2 H2 P2 where
  gg := a.gg.trans b.gg
  kp := fun x o h n => b.kp x o (a.kp x o h n) fun i hi => (a.pp i x hi).elim (fun ⟨j, hj⟩ => n j hj) fun e => by rw [h] at e; cases e
  ld := fun x h => a.ld x (b.ld x h)
  pp := fun i x h => (b.pp i x h).elim (fun ⟨j, hj⟩ => a.pp j x hj) fun e => .inr (a.ld x e)
  gn := fun x h n => by
    by_cases h1 : G1 x = none
    · exact (b.gn x h1 n).elim (fun ⟨j, hj⟩ => a.pp j x hj) fun e => .inr (a.ld x e)
    · exact a.gn x h h1
/-- a value's own is laid to what stands still -/
noncomputable def gadd (G H : Hp) (A : Addr → Prop) : Hp := fun a => by
  classical exact if A a then H a else G a
section
variable {C : Ct} {G H G' H' : Hp} {P P' : Nat → Addr → Prop} {r r' : Env} {σ σ' : St} {A B : Addr → Prop} {x : Val} {v : V} {t : T} {d : D}
theorem gadd_in {a : Addr} (h : A a) : gadd G H A a = H a := by unfold gadd; rw [if_pos h]
theorem gadd_out {a : Addr} (h : ¬ A a) : gadd G H A a = G a := by unfold gadd; rw [if_neg h]
theorem Same.gadd (hn : ∀ a, A a → G a = none) : Same G (gadd G H A) := fun a o h => by
  by_cases ha : A a
  · rw [hn a ha] at h; cases h
  · rw [gadd_out ha]; exact h
theorem gadd_le (s : Same G H) : Same (FJ.gadd G H A) H := fun a o h => by
  by_cases ha : A a
  · rw [gadd_in ha] at h; exact h
  · rw [gadd_out ha] at h; exact s a o h
theorem Sst.dom (st : Sst C G H P r σ) {i : Nat} {a : Addr} (h : P i a) : G a = none ∧ H a ≠ none := by
  obtain ⟨t, e⟩ := st.pe i a h
  obtain ⟨v, _, o⟩ := st.sl i t e
  exact Own.dom o h
/-- an owned value may be read as it is -/
theorem Own.rep (s : Same G H) (o : Own C G H t v A) : Rep C H t.toD v := Own.freeze s o fun _ _ _ h => h

def Res (C : Ct) (G H : Hp) (P : Nat → Addr → Prop) : Val → V → (Addr → Prop) → Prop
  | .v t, v, A => Own C G H t v A ∧ ∀ i a, A a → ¬ P i a
  | .b i t, v, A => (∀ a, ¬ A a) ∧ ∃ B, Own C G H t v B ∧ ∀ a, B a → P i a
theorem Res.fr (h : Rep C G d v) : Res C G H P (.v (.fr d)) v (fun _ => False) := ⟨.fr h fun _ z => z, fun _ _ z => z.elim⟩
/-- laying still a temporary -/
theorem Sst.lay (st : Sst C G H P r σ) (ha : ∀ a, A a → G a = none) (hn : ∀ i a, A a → ¬ P i a) : Sst C (gadd G H A) H P r σ where
  len := st.len
  gh := gadd_le st.gh
  sl := fun i t e => by
    obtain ⟨v, h1, h2⟩ := st.sl i t e
    refine ⟨v, h1, Own.mono (Same.gadd ha) h2 (fun a h => ?_) fun _ _ _ h => h⟩
    rw [gadd_out fun z => hn i a z h]
    exact (Own.dom h2 h).1
  pe := st.pe
  dj := st.dj
theorem Stp.lay (hf : ∀ a, A a → G a = none) : ∀ (hA : ∀ a, A a → (∃ j, P j a) ∨ H a = none), Stp G H P (gadd G H A) H P := fun hA =>
  ⟨Same.gadd hf, fun _ _ h _ => h, fun _ h => h, fun i _ h => .inl ⟨i, h⟩, fun a h n => by
    by_cases ha : A a
    · exact hA a ha
    · rw [gadd_out ha] at n; exact absurd h n⟩
/-- two steps, the second by a temporary of the first one's own -/
theorem Stp.layed {G0 H0 : Hp} {P0 : Nat → Addr → Prop} (s : Stp G0 H0 P0 G H P) (hf : ∀ a, A a → G a = none) (hA : ∀ a, A a → (∃ j, P0 j a) ∨ H0 a = none) : Stp G0 H0 P0 (gadd G H A) H P :=
  ⟨s.gg.trans (Same.gadd hf), s.kp, s.ld, s.pp, fun a h n => by
    by_cases ha : A a
    · exact hA a ha
    · rw [gadd_out ha] at n; exact s.gn a h n⟩
/-- a slot's own stands still from now on -/
def Pno (P : Nat → Addr → Prop) (i : Nat) : Nat → Addr → Prop := fun j a => j ≠ i ∧ P j a
theorem getSet {α : Type} {l : List α} {i j : Nat} {x y : α} (h : (l.set i x)[j]? = some y) : (i = j ∧ y = x ∧ i < l.length) ∨ (i ≠ j ∧ l[j]? = some y) := by
  by_cases e : i = j
  · subst e
    by_cases hl : i < l.length
    · rw [List.getElem?_set_self hl] at h
      exact .inl ⟨rfl, (Option.some.inj h).symm, hl⟩
    · rw [List.getElem?_eq_none (by simpa using hl)] at h; cases h
  · rw [List.getElem?_set_ne e] at h
    exact .inr ⟨e, h⟩
theorem ltOf {α : Type} {l : List α} {i : Nat} {x : α} (h : l[i]? = some x) : i < l.length := (List.getElem?_eq_some_iff.mp h).1
theorem Sst.frz (st : Sst C G H P r σ) (i : Nat) : Sst C (gadd G H (P i)) H (Pno P i) (FJ.frz i r) σ ∧ Stp G H P (gadd G H (P i)) H (Pno P i) := by
  have hG : ∀ a, P i a → G a = none := fun a h => (st.dom h).1
  refine ⟨?_, ⟨Same.gadd hG, fun _ _ h _ => h, fun _ h => h, fun j a h => .inl ⟨j, h.2⟩, fun a h n => ?_⟩⟩
  · have base : ∀ (j : Nat) (t : T), j ≠ i → r[j]? = some (some t) → ∃ v, σ[j]? = some (some v) ∧ Own C (gadd G H (P i)) H t v (Pno P i j) := fun j t hj e => by
      obtain ⟨v, h1, h2⟩ := st.sl j t e
      refine ⟨v, h1, ?_⟩
      have eP : Pno P i j = P j := by
        funext a
        exact propext ⟨fun h => h.2, fun h => ⟨hj, h⟩⟩
      rw [eP]
      refine Own.mono (Same.gadd hG) h2 (fun a h => ?_) fun _ _ _ h => h
      rw [gadd_out fun z => hj (st.dj _ _ _ h z)]
      exact (Own.dom h2 h).1
    cases e : r[i]? with
    | none =>
      have er : FJ.frz i r = r := by unfold FJ.frz; rw [e]
      rw [er]
      refine ⟨st.len, gadd_le st.gh, fun j t hj => base j t (fun z => by subst z; rw [e] at hj; cases hj) hj, fun j a h => st.pe j a h.2, fun j k a h1 h2 => st.dj j k a h1.2 h2.2⟩
    | some o =>
      cases o with
      | none =>
        have er : FJ.frz i r = r := by unfold FJ.frz; rw [e]
        rw [er]
        refine ⟨st.len, gadd_le st.gh, fun j t hj => base j t (fun z => by subst z; rw [e] at hj; cases hj) hj, fun j a h => st.pe j a h.2, fun j k a h1 h2 => st.dj j k a h1.2 h2.2⟩
      | some t0 =>
        have er : FJ.frz i r = r.set i (some (.fr t0.toD)) := by unfold FJ.frz; rw [e]
        rw [er]
        refine ⟨by rw [List.length_set]; exact st.len, gadd_le st.gh, fun j t hj => ?_, fun j a h => ?_, fun j k a h1 h2 => st.dj j k a h1.2 h2.2⟩
        · rcases getSet hj with ⟨rfl, ht, _⟩ | ⟨hne, hj⟩
          · cases ht
            obtain ⟨v, h1, h2⟩ := st.sl i t0 e
            exact ⟨v, h1, .fr (Own.freeze (Same.gadd hG) h2 fun a o ha ho => by rw [gadd_in ha]; exact ho) fun a z => z.1 rfl⟩
          · exact base j t hne.symm hj
        · obtain ⟨t, ht⟩ := st.pe j a h.2
          exact ⟨t, by rw [List.getElem?_set_ne (Ne.symm h.1)]; exact ht⟩
  · by_cases ha : P i a
    · exact .inl ⟨i, ha⟩
    · rw [gadd_out ha] at n; exact absurd h n

/-- a value as a def may read it: it stands still, or it is one object whose parts do -/
def Us (C : Ct) (G H : Hp) (d : D) (v : V) : Prop := Rep C G d v ∨ ∃ p o, v = .ref p ∧ H p = some o ∧ Flat C G d o
theorem Us.rep (s : Same G H) (u : Us C G H d v) : Rep C H d v := by
  rcases u with u | ⟨p, o, rfl, h, f⟩
  · exact Rep.mono s u
  · exact Flat.rep (Flat.mono s f) h
theorem soft_us (hs : t.soft = true) (o : Own C G H t v A) : Us C G H t.toD v := by
  cases o with
  | fr r _ => exact .inl r
  | ow h _ f _ => exact .inr ⟨_, _, rfl, h, f⟩
  | nl _ _ _ _ _ => cases hs
  | nt _ _ _ _ _ => cases hs
  | nd _ _ _ _ _ _ => cases hs
  | no _ _ _ _ _ => cases hs
/-- it is laid still -/
theorem settle_ok {G0 H0 : Hp} {P0 : Nat → Addr → Prop} (st : Sst C G H P r σ) (s : Stp G0 H0 P0 G H P) (res : Res C G H P x v A) (hA : ∀ a, A a → (∃ j, P0 j a) ∨ H0 a = none) :
    ∃ G1 P1, Sst C G1 H P1 (useE false x r) σ ∧ Stp G0 H0 P0 G1 H P1 ∧ Rep C G1 x.toD v := by
  cases x with
  | v t =>
    obtain ⟨o, n⟩ := res
    refine ⟨gadd G H A, P, st.lay (fun a h => (Own.dom o h).1) n, s.layed (fun a h => (Own.dom o h).1) hA, Own.freeze (Same.gadd fun a h => (Own.dom o h).1) o fun a u ha hu => by rw [gadd_in ha]; exact hu⟩
  | b i t =>
    obtain ⟨_, B, o, hB⟩ := res
    obtain ⟨st1, s1⟩ := st.frz i
    exact ⟨_, _, st1, s.trans s1, Own.freeze s1.gg o fun a u ha hu => by rw [gadd_in (hB a ha)]; exact hu⟩
/-- it is used: what it is stays so -/
theorem use_ok {G0 H0 : Hp} {P0 : Nat → Addr → Prop} (p : Bool) (st : Sst C G H P r σ) (s : Stp G0 H0 P0 G H P) (res : Res C G H P x v A) (hA : ∀ a, A a → (∃ j, P0 j a) ∨ H0 a = none) :
    ∃ G1 P1, Sst C G1 H P1 (useE p x r) σ ∧ Stp G0 H0 P0 G1 H P1 ∧ ∀ G2 H2 P2, Stp G1 H P1 G2 H2 P2 → (p = true → Same H H2) → Us C G2 H2 x.toD v := by
  have fin : useE p x r = useE false x r → ∃ G1 P1, Sst C G1 H P1 (useE p x r) σ ∧ Stp G0 H0 P0 G1 H P1 ∧ ∀ G2 H2 P2, Stp G1 H P1 G2 H2 P2 → (p = true → Same H H2) → Us C G2 H2 x.toD v := fun e => by
    obtain ⟨G1, P1, h1, h2, h3⟩ := settle_ok st s res hA
    rw [e]
    exact ⟨G1, P1, h1, h2, fun G2 H2 P2 s2 _ => .inl (Rep.mono s2.gg h3)⟩
  cases x with
  | v t => exact fin rfl
  | b i t =>
    by_cases hp : p = true ∧ t.soft = true
    · obtain ⟨hp, hs⟩ := hp
      subst hp
      obtain ⟨_, B, o, hB⟩ := res
      have er : useE true (.b i t) r = r := by unfold useE; simp [hs]
      rw [er]
      refine ⟨G, P, st, s, fun G2 H2 P2 s2 hp => ?_⟩
      rcases soft_us hs o with h | ⟨q, u, h1, h2, h3⟩
      · exact .inl (Rep.mono s2.gg h)
      · exact .inr ⟨q, u, h1, hp rfl _ _ h2, Flat.mono s2.gg h3⟩
    · refine fin ?_
      unfold useE
      have : (p && t.soft) = false := by
        cases p <;> cases h : t.soft <;> simp_all
      simp [this]
theorem look_ok {G0 H0 : Hp} {P0 : Nat → Addr → Prop} (p : Bool) (st : Sst C G H P r σ) (s : Stp G0 H0 P0 G H P) (res : Res C G H P x v A) (hA : ∀ a, A a → (∃ j, P0 j a) ∨ H0 a = none) :
    ∃ G1 P1, Sst C G1 H P1 (lookE p x r) σ ∧ Stp G0 H0 P0 G1 H P1 ∧ ∀ G2 H2 P2, Stp G1 H P1 G2 H2 P2 → Same G2 H2 → (p = true → Same H H2) → Rep C H2 x.toD v := by
  have fin : lookE p x r = useE false x r → ∃ G1 P1, Sst C G1 H P1 (lookE p x r) σ ∧ Stp G0 H0 P0 G1 H P1 ∧ ∀ G2 H2 P2, Stp G1 H P1 G2 H2 P2 → Same G2 H2 → (p = true → Same H H2) → Rep C H2 x.toD v := fun e => by
    obtain ⟨G1, P1, h1, h2, h3⟩ := settle_ok st s res hA
    rw [e]
    exact ⟨G1, P1, h1, h2, fun G2 H2 P2 s2 g2 _ => Rep.mono (s2.gg.trans g2) h3⟩
  cases x with
  | v t => exact fin rfl
  | b i t =>
    cases p with
    | false => exact fin rfl
    | true =>
      obtain ⟨_, B, o, hB⟩ := res
      exact ⟨G, P, st, s, fun G2 H2 P2 s2 g2 hp => Rep.mono (hp rfl) (Own.rep st.gh o)⟩
end

/-! ### readings -/
def Post (C : Ct) (G H : Hp) (P : Nat → Addr → Prop) (r' : Env) (σ : St) (pu : Bool) (x : Val) (Q : VK) : Prop :=
  ∀ v G' H' P' A, Sst C G' H' P' r' σ → Stp G H P G' H' P' → Res C G' H' P' x v A → (∀ a, A a → (∃ j, P j a) ∨ H a = none) → (pu = true → Same H H') → Q v H'
def tE (C : Ct) (e : E) : TE := fun σ H Q => ∃ G P r x r', Sst C G H P r σ ∧ ev e r = .ok x r' ∧ Post C G H P r' σ e.pu x Q
/-- in a state that was come to by s -/
theorem tE_at {C : Ct} {e : E} {G H : Hp} {P : Nat → Addr → Prop} {r r' : Env} {x : Val} {σ : St} {Q : VK} (st : Sst C G H P r σ) (h : ev e r = .ok x r')
    (k : ∀ v G' H' P' A, Sst C G' H' P' r' σ → Stp G H P G' H' P' → Res C G' H' P' x v A → (∀ a, A a → (∃ j, P j a) ∨ H a = none) → (e.pu = true → Same H H') → Q v H') : tE C e σ H Q := ⟨G, P, r, x, r', st, h, k⟩
end FJ

/-! What operations hand on; the operators. -/
namespace FJ
open PySem L2

/-- new objects are laid -/
structure Grow (G H G' H' : Hp) : Prop where
  gg : Same G G'
  hh : Same H H'
  gh : Same G' H'
  nw : ∀ (a : Addr), G a = none → G' a ≠ none → H a = none
def Alc (C : Ct) (G H : Hp) (t : T) (Q : VK) : Prop := ∀ v G' H' A, Grow G H G' H' → Own C G' H' t v A → (∀ a, A a → H a = none) → Q v H'
section
variable {C : Ct} {G H G' H' : Hp} {P P' : Nat → Addr → Prop} {r r' : Env} {σ σ' : St} {A B : Addr → Prop} {x : Val} {v : V} {t : T} {d : D} {Q : VK}
theorem Grow.refl (s : Same G H) : Grow G H G H := ⟨Same.refl _, Same.refl _, s, fun _ h n => absurd h n⟩
theorem Same.nu {a : Addr} {o : HO} (h : H a = none) : Same H (upd H a o) := fun b u e => by rw [upd_ne (ne_of_none e h)]; exact e
theorem Same.no (s : Same G H) {a : Addr} (h : H a = Option.none) : G a = Option.none := Same.free s h
theorem Grow.nu (s : Same G H) {a : Addr} {o : HO} (h : H a = none) : Grow G H G (upd H a o) := ⟨Same.refl _, Same.nu h, s.trans (Same.nu h), fun _ h n => absurd h n⟩
theorem Grow.nuF (s : Same G H) {a : Addr} {o : HO} (h : H a = none) : Grow G H (upd G a o) (upd H a o) where
  gg := Same.nu (Same.no s h)
  hh := Same.nu h
  gh := fun b u e => by
    by_cases hb : b = a
    · subst hb; rw [upd_same] at e ⊢; exact e
    · rw [upd_ne hb] at e ⊢; exact s b u e
  nw := fun b hb n => by
    by_cases hb' : b = a
    · subst hb'; exact h
    · rw [upd_ne hb'] at n; exact absurd hb n
theorem Grow.trans {G1 H1 G2 H2 : Hp} (a : Grow G H G1 H1) (b : Grow G1 H1 G2 H2) : Grow G H G2 H2 :=
  ⟨a.gg.trans b.gg, a.hh.trans b.hh, b.gh, fun x h n => by
    by_cases h1 : G1 x = none
    · exact Same.no a.hh (b.nw x h1 n)
    · exact a.nw x h h1⟩
theorem Sst.grow (st : Sst C G H P r σ) (g : Grow G H G' H') : Sst C G' H' P r σ where
  len := st.len
  gh := g.gh
  sl := fun i t e => by
    obtain ⟨v, h1, h2⟩ := st.sl i t e
    refine ⟨v, h1, Own.mono g.gg h2 (fun a h => ?_) fun a o _ h => g.hh a o h⟩
    by_cases hn : G' a = none
    · exact hn
    · exact absurd (g.nw a (Own.dom h2 h).1 hn) (Own.dom h2 h).2
  pe := st.pe
  dj := st.dj
theorem Stp.grow (g : Grow G H G' H') : Stp G H P G' H' P := ⟨g.gg, fun a o h _ => g.hh a o h, fun a h => Same.no g.hh h, fun i a h => .inl ⟨i, h⟩, fun a h n => .inr (g.nw a h n)⟩
/-- the end of an expression -/
theorem Post.alc {G0 H0 : Hp} {P0 : Nat → Addr → Prop} {pu : Bool} (k : Post C G0 H0 P0 r σ pu (.v t) Q) (st : Sst C G H P r σ) (s : Stp G0 H0 P0 G H P) (hp : pu = true → Same H0 H) : Alc C G H t Q := fun v G' H' A g o hA => by
  refine k v G' H' P A (st.grow g) (s.trans (Stp.grow g)) ⟨o, fun i a ha hi => ?_⟩ (fun a ha => .inr (s.ld a (hA a ha))) fun e => (hp e).trans g.hh
  exact (st.dom hi).2 (hA a ha)
theorem Alc.fr (k : Alc C G H (.fr d) Q) (s : Same G H) (h : Rep C G d v) : Q v H := k v G H (fun _ => False) (Grow.refl s) (.fr h fun _ z => z) fun _ z => z.elim
theorem Alc.own (k : Alc C G H (.ow d) Q) (s : Same G H) {a : Addr} {o : HO} (ha : H a = none) (f : Flat C G d o) : Q (.ref a) (upd H a o) :=
  k (.ref a) G (upd H a o) (fun b => b = a) (Grow.nu s ha) (.ow upd_same (Same.no s ha) f fun _ => Iff.rfl) fun b e => by rw [e]; exact ha
theorem Alc.tup {ds : List D} {vs : List V} (k : Alc C G H (.fr (.tup ds)) Q) (s : Same G H) {a : Addr} (ha : H a = none) (f : Reps C G ds vs) : Q (.ref a) (upd H a (.tup vs)) :=
  k (.ref a) (upd G a (.tup vs)) (upd H a (.tup vs)) (fun _ => False) (Grow.nuF s ha) (.fr (.tup upd_same (Reps.mono (Same.nu (Same.no s ha)) f)) fun _ z => z) fun _ z => z.elim
/-- a value used: what it is -/
theorem Us.int {i : Int} (u : Us C G H (.int i) v) : v = .int i := by
  rcases u with u | ⟨p, o, _, _, f⟩
  · cases u; rfl
  · cases f
theorem Us.bl {i : Bool} (u : Us C G H (.bl i) v) : v = .bl i := by
  rcases u with u | ⟨p, o, _, _, f⟩
  · cases u; rfl
  · cases f
theorem Us.str {i : Str} (u : Us C G H (.str i) v) : v = .str i := by
  rcases u with u | ⟨p, o, _, _, f⟩
  · cases u; rfl
  · cases f
theorem Us.lst {ds : List D} (s : Same G H) (u : Us C G H (.lst ds) v) : ∃ p vs, v = .ref p ∧ H p = some (.lst vs) ∧ Reps C G ds vs := by
  rcases u with u | ⟨p, o, e, h, f⟩
  · cases u with
    | lst h r => exact ⟨_, _, rfl, s _ _ h, r⟩
  · cases f with
    | lst r => exact ⟨p, _, e, h, r⟩
theorem Us.tup {ds : List D} (s : Same G H) (u : Us C G H (.tup ds) v) : ∃ p vs, v = .ref p ∧ H p = some (.tup vs) ∧ G p = some (.tup vs) ∧ Reps C G ds vs := by
  rcases u with u | ⟨p, o, e, h, f⟩
  · cases u with
    | tup h r => exact ⟨_, _, rfl, s _ _ h, h, r⟩
  · cases f
theorem Us.scr {ns : List Int} (s : Same G H) (u : Us C G H (.scr ns) v) : ∃ p, v = .ref p ∧ SqL C.K H p (ns.map V.int) := by
  rcases u with u | ⟨p, o, e, h, f⟩
  · cases u with
    | scr h => exact ⟨_, rfl, Same.seq s h⟩
  · cases f
theorem Us.dK {ks : List Key} {ds : List D} (s : Same G H) (u : Us C G H (.dK ks ds) v) : ∃ p vs, v = .ref p ∧ H p = some (.dK (ks.zip vs)) ∧ ks.length = ds.length ∧ Reps C G ds vs := by
  rcases u with u | ⟨p, o, e, h, f⟩
  · cases u with
    | dK h l r => exact ⟨_, _, rfl, s _ _ h, l, r⟩
  · cases f with
    | dK l r => exact ⟨p, _, e, h, l, r⟩
theorem Us.dT {ks : List (List Key)} {ds : List D} (s : Same G H) (u : Us C G H (.dT ks ds) v) : ∃ p vs, v = .ref p ∧ H p = some (.dT (ks.zip vs)) ∧ ks.length = ds.length ∧ Reps C G ds vs := by
  rcases u with u | ⟨p, o, e, h, f⟩
  · cases u with
    | dT h l r => exact ⟨_, _, rfl, s _ _ h, l, r⟩
  · cases f with
    | dT l r => exact ⟨p, _, e, h, l, r⟩
theorem Us.obj {c : Nat} {ds : List D} (s : Same G H) (u : Us C G H (.obj c ds) v) : ∃ p dx vs, v = .ref p ∧ H p = some (.ins (C.cls c) dx ((C.fld c).zip vs)) ∧ Reps C G ds vs := by
  rcases u with u | ⟨p, o, e, h, f⟩
  · cases u with
    | obj h r => exact ⟨_, _, _, rfl, s _ _ h, r⟩
  · cases f with
    | obj r => exact ⟨p, _, _, e, h, r⟩
end

theorem mulOk_ok {i j : Int} (h : mulOk i j = true) : CMul i j := by
  unfold mulOk at h
  rw [Bool.or_eq_true, decide_eq_true_eq, decide_eq_true_eq] at h
  exact h
theorem divOk_ok {j : Int} (h : divOk j = true) : 0 < j ∧ j.natAbs.log2 < 9000 := by
  unfold divOk at h
  rw [decide_eq_true_eq] at h
  refine ⟨h.1, ?_⟩
  have h1 : j.natAbs < 2 ^ 64 := by omega
  have := PySem.Flt.log2_lt_of (by decide : 0 < 64) h1
  omega

/-- a binary operator, by trees -/
def rB (C : Ct) (o : Bop) : R2 := fun x y H Q => ∃ G a b t, Same G H ∧ Us C G H a x ∧ Us C G H b y ∧ binD o a b = some t ∧ Alc C G H t Q
def opOf : Bop → Operator
  | .add => .Add | .sub => .Sub | .mul => .Mult | .fdiv => .FloorDiv | .mod => .Mod | .pow => .Pow
theorem binOp_of {o : Operator} {b : Bop} (h : binOp o = some b) : o = opOf b := by
  cases o <;> simp [binOp] at h <;> subst h <;> rfl
theorem rep_vals {C : Ct} {G : Hp} {ds : List D} {vs : List V} (r : Reps C G ds vs) (n : Nat) : Reps C G (rep n ds) (List.replicate n vs).flatten := by
  unfold rep
  induction n with
  | zero => exact .nil
  | succ n ih => rw [List.replicate_succ, List.replicate_succ, List.flatten_cons, List.flatten_cons]; exact Reps.app r ih
theorem op_bin {X : Cx} {C : Ct} (hK : X.K = C.K) (o : Bop) : OpR X (binaryOp (opOf o)) (rB C o) := by
  intro pins s σ H x y v u Q I rx ry ⟨G, a, b, t, gh, ux, uy, e, k⟩
  cases o with
  | add =>
    cases a with
    | int i =>
      cases b with
      | int j =>
        cases e
        cases ux.int; cases uy.int
        exact op_add pins s σ H _ _ v u Q I rx ry ⟨i, j, rfl, rfl, k.fr gh .int⟩
      | _ => cases e
    | str i =>
      cases b with
      | str j =>
        simp only [binD] at e
        split at e
        · cases e
          cases ux.str; cases uy.str
          exact op_add_str pins s σ H _ _ v u Q I rx ry ⟨i, j, rfl, rfl, by assumption, k.fr gh .str⟩
        · cases e
      | _ => cases e
    | lst xs =>
      cases b with
      | lst ys =>
        simp only [binD] at e
        split at e
        · cases e
          obtain ⟨p, vs, rfl, h1, r1⟩ := ux.lst gh
          obtain ⟨q, us, rfl, h2, r2⟩ := uy.lst gh
          refine op_cat pins s σ H _ _ v u Q I rx ry ⟨p, q, vs, us, rfl, rfl, h1, h2, ?_, fun z hz => k.own gh hz (.lst (Reps.app r1 r2))⟩
          rw [← Reps.length r1, ← Reps.length r2]; assumption
        · cases e
      | _ => cases e
    | tup xs =>
      cases b with
      | tup ys =>
        simp only [binD] at e
        split at e
        · cases e
          obtain ⟨p, vs, rfl, h1, g1, r1⟩ := ux.tup gh
          obtain ⟨q, us, rfl, h2, g2, r2⟩ := uy.tup gh
          refine op_catA pins s σ H _ _ v u Q I rx ry ⟨p, q, vs, us, rfl, rfl, SqT.of h1, SqT.of h2, ?_, fun e => ?_, fun _ e => ?_, fun _ _ z hz => k.tup gh hz (Reps.app r1 r2)⟩
          · rw [← Reps.length r1, ← Reps.length r2]; assumption
          · subst e
            cases r1
            exact k.fr gh (.tup g2 r2)
          · subst e
            cases r2
            rw [List.append_nil] at k
            exact k.fr gh (.tup g1 r1)
        · cases e
      | _ => cases e
    | _ => cases e
  | sub =>
    cases a with
    | int i =>
      cases b with
      | int j =>
        cases e
        cases ux.int; cases uy.int
        exact op_sub pins s σ H _ _ v u Q I rx ry ⟨i, j, rfl, rfl, k.fr gh .int⟩
      | _ => cases e
    | _ => cases e
  | mul =>
    cases a with
    | int i =>
      cases b with
      | int j =>
        simp only [binD] at e
        split at e
        · rename_i hm
          cases e
          cases ux.int; cases uy.int
          exact op_mul pins s σ H _ _ v u Q I rx ry ⟨i, j, rfl, rfl, mulOk_ok hm, k.fr gh .int⟩
        · cases e
      | _ => cases e
    | lst xs =>
      cases b with
      | int j =>
        simp only [binD] at e
        split at e
        · rename_i hm
          cases e
          cases uy.int
          obtain ⟨p, vs, rfl, h1, r1⟩ := ux.lst gh
          refine op_rep pins s σ H _ _ v u Q I rx ry ⟨p, j, vs, rfl, rfl, h1, hm.1, hm.2.1, ?_, fun z hz => k.own gh hz (.lst (rep_vals r1 _))⟩
          rw [← Reps.length r1]; exact hm.2.2
        · cases e
      | _ => cases e
    | _ => cases e
  | fdiv =>
    cases a with
    | int i =>
      cases b with
      | int j =>
        simp only [binD] at e
        split at e
        · rename_i hm
          cases e
          cases ux.int; cases uy.int
          exact op_fdivW pins s σ H _ _ v u Q I rx ry ⟨i, j, rfl, rfl, divOk_ok hm, k.fr gh .int⟩
        · cases e
      | _ => cases e
    | _ => cases e
  | mod =>
    cases a with
    | int i =>
      cases b with
      | int j =>
        simp only [binD] at e
        split at e
        · rename_i hm
          cases e
          cases ux.int; cases uy.int
          exact op_mod pins s σ H _ _ v u Q I rx ry ⟨i, j, rfl, rfl, hm, k.fr gh .int⟩
        · cases e
      | _ => cases e
    | _ => cases e
  | pow =>
    cases a with
    | int i =>
      cases b with
      | int j =>
        simp only [binD] at e
        split at e
        · rename_i hm
          cases e
          cases ux.int; cases uy.int
          exact op_pow pins s σ H _ _ v u Q I rx ry ⟨i, j, rfl, rfl, ⟨hm.1, hm.2.1, hm.2.2⟩, k.fr gh .int⟩
        · cases e
      | _ => cases e
    | _ => cases e
end FJ

/-! Two things compared, by their trees. -/
namespace FJ
open PySem L2 PySem.SeqAt

theorem pys_length : ∀ ds : List D, (D.pys ds).length = ds.length
  | [] => rfl
  | _ :: r => by simp [D.pys, pys_length r]
theorem pys_get : ∀ (ds : List D) (j : Nat), (D.pys ds).getD j .none = (ds.getD j .non).py
  | [], _ => by simp [D.pys, D.py]
  | d :: r, 0 => by simp [D.pys]
  | d :: r, j + 1 => by simpa [D.pys] using pys_get r j
theorem plains_get {n : Nat} : ∀ {ds : List D} {j : Nat} {d : D}, D.plains n ds = true → ds[j]? = some d → d.plain n = true
  | [], _, _, _, e => by simp at e
  | c :: r, 0, d, h, e => by
    simp only [D.plains, Bool.and_eq_true] at h
    simp at e; subst e; exact h.1
  | c :: r, j + 1, d, h, e => by
    simp only [D.plains, Bool.and_eq_true] at h
    exact plains_get (j := j) h.2 (by simpa using e)
mutual
theorem eqv_self : ∀ (n : Nat) (d : D), d.plain n = true → PyData.eqv d.py d.py = true
  | _, .non, _ => by simp [D.py, PyData.eqv]
  | _, .bl b, _ => by simp [D.py, PyData.eqv]
  | _, .int i, _ => by simp [D.py, PyData.eqv]
  | _, .str s, _ => by simp [D.py, PyData.eqv]
  | 0, .tup _, h => by simp [D.plain] at h
  | 0, .lst _, h => by simp [D.plain] at h
  | n + 1, .tup xs, h => by
    simp only [D.plain] at h
    simp only [D.py, PyData.eqv]
    exact eqv_selfs n xs h
  | n + 1, .lst xs, h => by
    simp only [D.plain] at h
    simp only [D.py, PyData.eqv]
    exact eqv_selfs n xs h
  | n, .dK _ _, h => by cases n <;> simp [D.plain] at h
  | n, .dT _ _, h => by cases n <;> simp [D.plain] at h
  | n, .obj _ _, h => by cases n <;> simp [D.plain] at h
  | n, .scr _, h => by cases n <;> simp [D.plain] at h
  | n, .tab _ _ _, h => by cases n <;> simp [D.plain] at h
theorem eqv_selfs : ∀ (n : Nat) (ds : List D), D.plains n ds = true → PyData.eqvAll (D.pys ds) (D.pys ds) = true
  | _, [], _ => by simp [D.pys, PyData.eqvAll]
  | n, d :: r, h => by
    simp only [D.plains, Bool.and_eq_true] at h
    simp only [D.pys, PyData.eqvAll, eqv_self n d h.1, eqv_selfs n r h.2, Bool.and_self]
end
section
variable {C : Ct} {H : Hp}
mutual
theorem Rep.same : ∀ {d e : D} {v : V} {n m : Nat}, Rep C H d v → Rep C H e v → d.plain n = true → e.plain m = true → d = e
  | _, _, _, _, _, .non, h, _, _ => by cases h; rfl
  | _, _, _, _, _, .bl, h, _, _ => by cases h; rfl
  | _, _, _, _, _, .int, h, _, _ => by cases h; rfl
  | _, _, _, _, _, .str, h, _, _ => by cases h; rfl
  | .tup xs, _, _, n, m, .tup h r, h', hn, hm => by
    cases h' with
    | tup g q =>
      rw [h] at g; cases g
      cases n with
      | zero => simp [D.plain] at hn
      | succ n =>
        cases m with
        | zero => simp [D.plain] at hm
        | succ m =>
          simp only [D.plain] at hn hm
          rw [Reps.same r q hn hm]
    | lst g q => rw [h] at g; cases g
    | dK g _ q => rw [h] at g; cases g
    | dT g _ q => rw [h] at g; cases g
    | obj g q => rw [h] at g; cases g
    | scr g => cases m <;> simp [D.plain] at hm
    | tab _ _ _ => cases m <;> simp [D.plain] at hm
  | .lst xs, _, _, n, m, .lst h r, h', hn, hm => by
    cases h' with
    | lst g q =>
      rw [h] at g; cases g
      cases n with
      | zero => simp [D.plain] at hn
      | succ n =>
        cases m with
        | zero => simp [D.plain] at hm
        | succ m =>
          simp only [D.plain] at hn hm
          rw [Reps.same r q hn hm]
    | tup g q => rw [h] at g; cases g
    | dK g _ q => rw [h] at g; cases g
    | dT g _ q => rw [h] at g; cases g
    | obj g q => rw [h] at g; cases g
    | scr g => cases m <;> simp [D.plain] at hm
    | tab _ _ _ => cases m <;> simp [D.plain] at hm
  | _, _, _, n, _, .dK _ _ _, _, hn, _ => by cases n <;> simp [D.plain] at hn
  | _, _, _, n, _, .dT _ _ _, _, hn, _ => by cases n <;> simp [D.plain] at hn
  | _, _, _, n, _, .obj _ _, _, hn, _ => by cases n <;> simp [D.plain] at hn
  | _, _, _, n, _, .scr _, _, hn, _ => by cases n <;> simp [D.plain] at hn
  | _, _, _, n, _, .tab _ _ _ _ _, _, hn, _ => by cases n <;> simp [D.plain] at hn
theorem Reps.same : ∀ {ds es : List D} {vs : List V} {n m : Nat}, Reps C H ds vs → Reps C H es vs → D.plains n ds = true → D.plains m es = true → ds = es
  | _, _, _, _, _, .nil, h, _, _ => by cases h; rfl
  | _, _, _, n, m, .cons a b, .cons a' b', hn, hm => by
    simp only [D.plains, Bool.and_eq_true] at hn hm
    rw [Rep.same a a' hn.1 hm.1, Reps.same b b' hn.2 hm.2]
end
end
section
variable {P : Program} {w : World} {C : Ct} {H : Hp} {s : Shared}
theorem lst_is (ok : HOk P w H s.heap) {p : Addr} {vs : List V} (h : H p = some (.lst vs)) : ∃ its, Vals vs its ∧ s.heap.IsList p its.toArray := by
  obtain ⟨_, its, n, r, e⟩ := (show ObjOk P w H s.heap p (.lst vs) from ok p _ h)
  exact ⟨its, r, _, e, rfl, n, rfl⟩
theorem tup_is (ok : HOk P w H s.heap) {p : Addr} {vs : List V} (h : H p = some (.tup vs)) : ∃ its, Vals vs its ∧ s.heap.IsTuple p its.toArray := by
  obtain ⟨_, its, r, o, e, c, n, q⟩ := (show ObjOk P w H s.heap p (.tup vs) from ok p _ h)
  exact ⟨its, r, o, e, c, n, q⟩
/-- what is shown of the parts -/
def Parts (C : Ct) (H : Hp) (s : Shared) (n : Nat) : Prop := ∀ (d e : D) (A : Around) (x y : V) (u v : Value), d.plain n = true → e.plain n = true → Rep C H d x → Rep C H e y → RelV x u → RelV y v → A.units + n < cLine →
  EqAt A s u v (PyData.eqv d.py e.py)
theorem parts_of {n : Nat} (ih : Parts C H s n) {A : Around} {ds es : List D} {vs ws : List V} {us zs : List Value} (hd : D.plains n ds = true) (he : D.plains n es = true) (r1 : Reps C H ds vs) (r2 : Reps C H es ws) (q1 : Vals vs us) (q2 : Vals ws zs)
    (hu : A.units + n < cLine) : ∀ j (h1 : j < us.toArray.size) (h2 : j < zs.toArray.size), EqAt A s us.toArray[j] zs.toArray[j] (pairEq (D.pys ds) (D.pys es) j) := fun j h1 h2 => by
  have h1' : j < us.length := by simpa using h1
  have h2' : j < zs.length := by simpa using h2
  have l1 : j < vs.length := by rw [q1.length]; exact h1'
  have l2 : j < ws.length := by rw [q2.length]; exact h2'
  obtain ⟨a, ea, ra⟩ := Reps.getV r1 (List.getElem?_eq_getElem l1)
  obtain ⟨b, eb, rb⟩ := Reps.getV r2 (List.getElem?_eq_getElem l2)
  obtain ⟨u, eu, ru⟩ := q1.get (List.getElem?_eq_getElem l1)
  obtain ⟨z, ez, rz⟩ := q2.get (List.getElem?_eq_getElem l2)
  have e1 : us.toArray[j] = u := by
    have : us[j]? = some us.toArray[j] := by simp [h1']
    rw [eu] at this; exact (Option.some.inj this).symm
  have e2 : zs.toArray[j] = z := by
    have : zs[j]? = some zs.toArray[j] := by simp [h2']
    rw [ez] at this; exact (Option.some.inj this).symm
  have e3 : pairEq (D.pys ds) (D.pys es) j = PyData.eqv a.py b.py := by
    show PyData.eqv _ _ = _
    rw [pys_get, pys_get, List.getD_eq_getElem?_getD, List.getD_eq_getElem?_getD, ea, eb]
    rfl
  rw [e1, e2, e3]
  exact ih a b A _ _ u z (plains_get hd ea) (plains_get he eb) ra rb ru rz hu
theorem rc_lists {n : Nat} (ih : Parts C H s n) {A : Around} {ds es : List D} {vs ws : List V} {us zs : List Value} {p q : Addr} (hd : D.plains n ds = true) (he : D.plains n es = true) (r1 : Reps C H ds vs) (r2 : Reps C H es ws) (q1 : Vals vs us) (q2 : Vals ws zs)
    (i1 : s.heap.IsList p us.toArray) (i2 : s.heap.IsList q zs.toArray) (hu : A.units + (n + 1) < cLine) : RcAt A s (.ref p) (.ref q) (PyData.eqv (.list (D.pys ds)) (.list (D.pys es))) := by
  have l1 : us.toArray.size = (D.pys ds).length := by rw [pys_length, Reps.length r1, q1.length]; simp
  have l2 : zs.toArray.size = (D.pys es).length := by rw [pys_length, Reps.length r2, q2.length]; simp
  by_cases hl : us.toArray.size = zs.toArray.size
  · have h := RcAt.lists (A := A) i1 i2 hl (by omega) (parts_of ih hd he r1 r2 q1 q2 (by show A.units + 1 + n < cLine; omega))
    have e : (List.range us.toArray.size).all (pairEq (D.pys ds) (D.pys es)) = PyData.eqvAll (D.pys ds) (D.pys es) := by
      rw [l1]
      exact eqvAll_same_length (by omega)
    rw [e] at h
    simpa only [PyData.eqv] using h
  · have h := RcAt.lists_lengths (A := A) i1 i2 (by simpa using hl) (by omega)
    have e : PyData.eqvAll (D.pys ds) (D.pys es) = false := eqvAll_other_length (by omega)
    simp only [PyData.eqv, e]
    exact h
theorem rc_tups {n : Nat} (ih : Parts C H s n) {A : Around} {ds es : List D} {vs ws : List V} {us zs : List Value} {p q : Addr} (hd : D.plains n ds = true) (he : D.plains n es = true) (r1 : Reps C H ds vs) (r2 : Reps C H es ws) (q1 : Vals vs us) (q2 : Vals ws zs)
    (i1 : s.heap.IsTuple p us.toArray) (i2 : s.heap.IsTuple q zs.toArray) (hu : A.units + (n + 1) < cLine) : RcAt A s (.ref p) (.ref q) (PyData.eqv (.tuple (D.pys ds)) (.tuple (D.pys es))) := by
  have l1 : us.toArray.size = (D.pys ds).length := by rw [pys_length, Reps.length r1, q1.length]; simp
  have l2 : zs.toArray.size = (D.pys es).length := by rw [pys_length, Reps.length r2, q2.length]; simp
  have h := RcAt.tuples (A := A) i1 i2 (by omega) (parts_of ih hd he r1 r2 q1 q2 (by show A.units + 1 + n < cLine; omega))
  have e := eqvAll_eq (D.pys ds) (D.pys es)
  rw [l1, l2, e] at h
  simpa only [PyData.eqv] using h
theorem rc_at (ok : HOk P w H s.heap) {n : Nat} (ih : ∀ m, m < n → Parts C H s m) : ∀ (d e : D) (A : Around) (x y : V) (u v : Value), d.plain n = true → e.plain n = true → Rep C H d x → Rep C H e y → RelV x u → RelV y v → A.units + n < cLine →
    RcAt A s u v (PyData.eqv d.py e.py) := by
  intro d e A x y u v hd he rd re ru rv hu
  have hu0 : A.units < cLine := by omega
  cases rd with
  | non =>
    cases ru
    cases re with
    | non => cases rv; exact RcAt.none_none
    | bl => cases rv; exact RcAt.none_bool _
    | int => obtain ⟨t, rfl⟩ := rv; exact RcAt.none_int _ t
    | str => obtain ⟨t, rfl⟩ := rv; exact RcAt.none_str _ t
    | lst h r => cases rv; obtain ⟨its, q, il⟩ := lst_is ok h; exact RcAt.none_list il hu0
    | tup h r => cases rv; obtain ⟨its, q, il⟩ := tup_is ok h; exact RcAt.none_tuple il hu0
    | dK _ _ _ => cases n <;> simp [D.plain] at he
    | dT _ _ _ => cases n <;> simp [D.plain] at he
    | obj _ _ => cases n <;> simp [D.plain] at he
    | scr _ => cases n <;> simp [D.plain] at he
    | tab _ _ _ => cases n <;> simp [D.plain] at he
  | bl =>
    cases ru
    cases re with
    | non => cases rv; exact RcAt.bool_none _
    | bl => cases rv; exact RcAt.bool_bool _ _
    | int => obtain ⟨t, rfl⟩ := rv; exact RcAt.bool_int _ _ t
    | str => obtain ⟨t, rfl⟩ := rv; exact RcAt.bool_str _ _ t
    | lst h r => cases rv; obtain ⟨its, q, il⟩ := lst_is ok h; exact RcAt.bool_list _ il hu0
    | tup h r => cases rv; obtain ⟨its, q, il⟩ := tup_is ok h; exact RcAt.bool_tuple _ il hu0
    | dK _ _ _ => cases n <;> simp [D.plain] at he
    | dT _ _ _ => cases n <;> simp [D.plain] at he
    | obj _ _ => cases n <;> simp [D.plain] at he
    | scr _ => cases n <;> simp [D.plain] at he
    | tab _ _ _ => cases n <;> simp [D.plain] at he
  | int =>
    obtain ⟨t0, rfl⟩ := ru
    cases re with
    | non => cases rv; exact RcAt.int_none _ _
    | bl => cases rv; exact RcAt.int_bool _ _ _
    | int => obtain ⟨t, rfl⟩ := rv; exact RcAt.int_int _ _ _ t
    | str => obtain ⟨t, rfl⟩ := rv; exact RcAt.int_str _ _ _ t
    | lst h r => cases rv; obtain ⟨its, q, il⟩ := lst_is ok h; exact RcAt.int_list _ _ il hu0
    | tup h r => cases rv; obtain ⟨its, q, il⟩ := tup_is ok h; exact RcAt.int_tuple _ _ il hu0
    | dK _ _ _ => cases n <;> simp [D.plain] at he
    | dT _ _ _ => cases n <;> simp [D.plain] at he
    | obj _ _ => cases n <;> simp [D.plain] at he
    | scr _ => cases n <;> simp [D.plain] at he
    | tab _ _ _ => cases n <;> simp [D.plain] at he
  | str =>
    obtain ⟨t0, rfl⟩ := ru
    cases re with
    | non => cases rv; exact RcAt.str_none _ _
    | bl => cases rv; exact RcAt.str_bool _ _ _
    | int => obtain ⟨t, rfl⟩ := rv; exact RcAt.str_int _ _ _ t
    | str => obtain ⟨t, rfl⟩ := rv; exact RcAt.str_str _ _ _ t
    | lst h r => cases rv; obtain ⟨its, q, il⟩ := lst_is ok h; exact RcAt.str_list _ _ il hu0
    | tup h r => cases rv; obtain ⟨its, q, il⟩ := tup_is ok h; exact RcAt.str_tuple _ _ il hu0
    | dK _ _ _ => cases n <;> simp [D.plain] at he
    | dT _ _ _ => cases n <;> simp [D.plain] at he
    | obj _ _ => cases n <;> simp [D.plain] at he
    | scr _ => cases n <;> simp [D.plain] at he
    | tab _ _ _ => cases n <;> simp [D.plain] at he
  | lst h1 r1 =>
    cases ru
    obtain ⟨its, q1, i1⟩ := lst_is ok h1
    cases re with
    | non => cases rv; exact RcAt.list_none i1 hu0
    | bl => cases rv; exact RcAt.list_bool _ i1 hu0
    | int => obtain ⟨t, rfl⟩ := rv; exact RcAt.list_int _ t i1 hu0
    | str => obtain ⟨t, rfl⟩ := rv; exact RcAt.list_str _ t i1 hu0
    | lst h2 r2 =>
      cases rv
      obtain ⟨its2, q2, i2⟩ := lst_is ok h2
      cases n with
      | zero => simp [D.plain] at hd
      | succ n =>
        simp only [D.plain] at hd he
        exact rc_lists (ih n (Nat.lt_succ_self n)) hd he r1 r2 q1 q2 i1 i2 hu
    | tup h2 r2 => cases rv; obtain ⟨its2, q2, i2⟩ := tup_is ok h2; exact RcAt.list_tuple i1 i2 hu0
    | dK _ _ _ => cases n <;> simp [D.plain] at he
    | dT _ _ _ => cases n <;> simp [D.plain] at he
    | obj _ _ => cases n <;> simp [D.plain] at he
    | scr _ => cases n <;> simp [D.plain] at he
    | tab _ _ _ => cases n <;> simp [D.plain] at he
  | tup h1 r1 =>
    cases ru
    obtain ⟨its, q1, i1⟩ := tup_is ok h1
    cases re with
    | non => cases rv; exact RcAt.tuple_none i1 hu0
    | bl => cases rv; exact RcAt.tuple_bool _ i1 hu0
    | int => obtain ⟨t, rfl⟩ := rv; exact RcAt.tuple_int _ t i1 hu0
    | str => obtain ⟨t, rfl⟩ := rv; exact RcAt.tuple_str _ t i1 hu0
    | lst h2 r2 => cases rv; obtain ⟨its2, q2, i2⟩ := lst_is ok h2; exact RcAt.tuple_list i1 i2 hu0
    | tup h2 r2 =>
      cases rv
      obtain ⟨its2, q2, i2⟩ := tup_is ok h2
      cases n with
      | zero => simp [D.plain] at hd
      | succ n =>
        simp only [D.plain] at hd he
        exact rc_tups (ih n (Nat.lt_succ_self n)) hd he r1 r2 q1 q2 i1 i2 hu
    | dK _ _ _ => cases n <;> simp [D.plain] at he
    | dT _ _ _ => cases n <;> simp [D.plain] at he
    | obj _ _ => cases n <;> simp [D.plain] at he
    | scr _ => cases n <;> simp [D.plain] at he
    | tab _ _ _ => cases n <;> simp [D.plain] at he
  | dK _ _ _ => cases n <;> simp [D.plain] at hd
  | dT _ _ _ => cases n <;> simp [D.plain] at hd
  | obj _ _ => cases n <;> simp [D.plain] at hd
  | scr _ => cases n <;> simp [D.plain] at hd
  | tab _ _ _ => cases n <;> simp [D.plain] at hd
theorem atom_eq {A : Around} {d e : D} {x y : V} {u v : Value} (ok : HOk P w H s.heap) {n : Nat} (hd : d.plain n = true) (he : e.plain n = true) (rd : Rep C H d x) (re : Rep C H e y) (ru : RelV x u) (rv : RelV y v) (hu : A.units + n < cLine)
    (h : RcAt A s u v (PyData.eqv d.py e.py)) : EqAt A s u v (PyData.eqv d.py e.py) := fun prog w' E Q q => by
  unfold eqBool
  refine wpAny_holding ?_
  refine wpAny_ite_split (fun hab => ?_) (fun _ => ?_)
  rotate_left
  · cases u with
    | float b t =>
      have e0 : x = .flt b := ru.inj (show RelV (.flt b) (.float b t) from ⟨t, rfl⟩)
      subst e0
      cases rd
    | _ => exact wpAny_bind (h prog w' E _ (wpAny_truthy_bool q))
  have e1 := eq_of_beq hab
  subst e1
  have e2 : x = y := ru.inj rv
  subst e2
  have e3 := Rep.same rd re hd he
  subst e3
  rw [eqv_self n d hd] at q
  exact wpAny_bind (wpAny_rule (wpAny_pure q))
theorem parts_all (ok : HOk P w H s.heap) : ∀ n, Parts C H s n := by
  intro n
  induction n using Nat.strongRecOn with
  | _ n ih =>
    intro d e A x y u v hd he rd re ru rv hu
    exact atom_eq ok hd he rd re ru rv hu (rc_at ok ih d e A x y u v hd he rd re ru rv hu)
theorem rn_lists {n : Nat} (ih : Parts C H s n) {A : Around} {ds es : List D} {vs ws : List V} {us zs : List Value} {p q : Addr} (hd : D.plains n ds = true) (he : D.plains n es = true) (r1 : Reps C H ds vs) (r2 : Reps C H es ws) (q1 : Vals vs us) (q2 : Vals ws zs)
    (i1 : s.heap.IsList p us.toArray) (i2 : s.heap.IsList q zs.toArray) (hu : A.units + (n + 1) < cLine) : RcNeAt A s (.ref p) (.ref q) (!PyData.eqv (.list (D.pys ds)) (.list (D.pys es))) := by
  have l1 : us.toArray.size = (D.pys ds).length := by rw [pys_length, Reps.length r1, q1.length]; simp
  have l2 : zs.toArray.size = (D.pys es).length := by rw [pys_length, Reps.length r2, q2.length]; simp
  by_cases hl : us.toArray.size = zs.toArray.size
  · have h := RcNeAt.lists (A := A) i1 i2 hl (by omega) (parts_of ih hd he r1 r2 q1 q2 (by show A.units + 1 + n < cLine; omega))
    have e : (List.range us.toArray.size).all (pairEq (D.pys ds) (D.pys es)) = PyData.eqvAll (D.pys ds) (D.pys es) := by
      rw [l1]
      exact eqvAll_same_length (by omega)
    rw [e] at h
    simpa only [PyData.eqv] using h
  · have h := RcNeAt.lists_lengths (A := A) i1 i2 (by simpa using hl) (by omega)
    have e : PyData.eqvAll (D.pys ds) (D.pys es) = false := eqvAll_other_length (by omega)
    simp only [PyData.eqv, e]
    exact h
theorem rn_tups {n : Nat} (ih : Parts C H s n) {A : Around} {ds es : List D} {vs ws : List V} {us zs : List Value} {p q : Addr} (hd : D.plains n ds = true) (he : D.plains n es = true) (r1 : Reps C H ds vs) (r2 : Reps C H es ws) (q1 : Vals vs us) (q2 : Vals ws zs)
    (i1 : s.heap.IsTuple p us.toArray) (i2 : s.heap.IsTuple q zs.toArray) (hu : A.units + (n + 1) < cLine) : RcNeAt A s (.ref p) (.ref q) (!PyData.eqv (.tuple (D.pys ds)) (.tuple (D.pys es))) := by
  have l1 : us.toArray.size = (D.pys ds).length := by rw [pys_length, Reps.length r1, q1.length]; simp
  have l2 : zs.toArray.size = (D.pys es).length := by rw [pys_length, Reps.length r2, q2.length]; simp
  have h := RcNeAt.tuples (A := A) i1 i2 (by omega) (parts_of ih hd he r1 r2 q1 q2 (by show A.units + 1 + n < cLine; omega))
  have e := eqvAll_eq (D.pys ds) (D.pys es)
  rw [l1, l2, e] at h
  simpa only [PyData.eqv] using h
theorem rn_at (ok : HOk P w H s.heap) {n : Nat} (ih : ∀ m, m < n → Parts C H s m) : ∀ (d e : D) (A : Around) (x y : V) (u v : Value), d.plain n = true → e.plain n = true → Rep C H d x → Rep C H e y → RelV x u → RelV y v → A.units + n < cLine →
    RcNeAt A s u v (!PyData.eqv d.py e.py) := by
  intro d e A x y u v hd he rd re ru rv hu
  have hu0 : A.units < cLine := by omega
  cases rd with
  | non =>
    cases ru
    cases re with
    | non => cases rv; exact RcNeAt.none_none
    | bl => cases rv; exact RcNeAt.none_bool _
    | int => obtain ⟨t, rfl⟩ := rv; exact RcNeAt.none_int _ t
    | str => obtain ⟨t, rfl⟩ := rv; exact RcNeAt.none_str _ t
    | lst h r => cases rv; obtain ⟨its, q, il⟩ := lst_is ok h; exact RcNeAt.none_list il hu0
    | tup h r => cases rv; obtain ⟨its, q, il⟩ := tup_is ok h; exact RcNeAt.none_tuple il hu0
    | dK _ _ _ => cases n <;> simp [D.plain] at he
    | dT _ _ _ => cases n <;> simp [D.plain] at he
    | obj _ _ => cases n <;> simp [D.plain] at he
    | scr _ => cases n <;> simp [D.plain] at he
    | tab _ _ _ => cases n <;> simp [D.plain] at he
  | bl =>
    cases ru
    cases re with
    | non => cases rv; exact RcNeAt.bool_none _
    | bl => cases rv; exact RcNeAt.bool_bool _ _
    | int => obtain ⟨t, rfl⟩ := rv; exact RcNeAt.bool_int _ _ t
    | str => obtain ⟨t, rfl⟩ := rv; exact RcNeAt.bool_str _ _ t
    | lst h r => cases rv; obtain ⟨its, q, il⟩ := lst_is ok h; exact RcNeAt.bool_list _ il hu0
    | tup h r => cases rv; obtain ⟨its, q, il⟩ := tup_is ok h; exact RcNeAt.bool_tuple _ il hu0
    | dK _ _ _ => cases n <;> simp [D.plain] at he
    | dT _ _ _ => cases n <;> simp [D.plain] at he
    | obj _ _ => cases n <;> simp [D.plain] at he
    | scr _ => cases n <;> simp [D.plain] at he
    | tab _ _ _ => cases n <;> simp [D.plain] at he
  | int =>
    obtain ⟨t0, rfl⟩ := ru
    cases re with
    | non => cases rv; exact RcNeAt.int_none _ _
    | bl => cases rv; exact RcNeAt.int_bool _ _ _
    | int => obtain ⟨t, rfl⟩ := rv; exact RcNeAt.int_int _ _ _ t
    | str => obtain ⟨t, rfl⟩ := rv; exact RcNeAt.int_str _ _ _ t
    | lst h r => cases rv; obtain ⟨its, q, il⟩ := lst_is ok h; exact RcNeAt.int_list _ _ il hu0
    | tup h r => cases rv; obtain ⟨its, q, il⟩ := tup_is ok h; exact RcNeAt.int_tuple _ _ il hu0
    | dK _ _ _ => cases n <;> simp [D.plain] at he
    | dT _ _ _ => cases n <;> simp [D.plain] at he
    | obj _ _ => cases n <;> simp [D.plain] at he
    | scr _ => cases n <;> simp [D.plain] at he
    | tab _ _ _ => cases n <;> simp [D.plain] at he
  | str =>
    obtain ⟨t0, rfl⟩ := ru
    cases re with
    | non => cases rv; exact RcNeAt.str_none _ _
    | bl => cases rv; exact RcNeAt.str_bool _ _ _
    | int => obtain ⟨t, rfl⟩ := rv; exact RcNeAt.str_int _ _ _ t
    | str => obtain ⟨t, rfl⟩ := rv; exact RcNeAt.str_str _ _ _ t
    | lst h r => cases rv; obtain ⟨its, q, il⟩ := lst_is ok h; exact RcNeAt.str_list _ _ il hu0
    | tup h r => cases rv; obtain ⟨its, q, il⟩ := tup_is ok h; exact RcNeAt.str_tuple _ _ il hu0
    | dK _ _ _ => cases n <;> simp [D.plain] at he
    | dT _ _ _ => cases n <;> simp [D.plain] at he
    | obj _ _ => cases n <;> simp [D.plain] at he
    | scr _ => cases n <;> simp [D.plain] at he
    | tab _ _ _ => cases n <;> simp [D.plain] at he
  | lst h1 r1 =>
    cases ru
    obtain ⟨its, q1, i1⟩ := lst_is ok h1
    cases re with
    | non => cases rv; exact RcNeAt.list_none i1 hu0
    | bl => cases rv; exact RcNeAt.list_bool _ i1 hu0
    | int => obtain ⟨t, rfl⟩ := rv; exact RcNeAt.list_int _ t i1 hu0
    | str => obtain ⟨t, rfl⟩ := rv; exact RcNeAt.list_str _ t i1 hu0
    | lst h2 r2 =>
      cases rv
      obtain ⟨its2, q2, i2⟩ := lst_is ok h2
      cases n with
      | zero => simp [D.plain] at hd
      | succ n =>
        simp only [D.plain] at hd he
        exact rn_lists (ih n (Nat.lt_succ_self n)) hd he r1 r2 q1 q2 i1 i2 hu
    | tup h2 r2 => cases rv; obtain ⟨its2, q2, i2⟩ := tup_is ok h2; exact RcNeAt.list_tuple i1 i2 hu0
    | dK _ _ _ => cases n <;> simp [D.plain] at he
    | dT _ _ _ => cases n <;> simp [D.plain] at he
    | obj _ _ => cases n <;> simp [D.plain] at he
    | scr _ => cases n <;> simp [D.plain] at he
    | tab _ _ _ => cases n <;> simp [D.plain] at he
  | tup h1 r1 =>
    cases ru
    obtain ⟨its, q1, i1⟩ := tup_is ok h1
    cases re with
    | non => cases rv; exact RcNeAt.tuple_none i1 hu0
    | bl => cases rv; exact RcNeAt.tuple_bool _ i1 hu0
    | int => obtain ⟨t, rfl⟩ := rv; exact RcNeAt.tuple_int _ t i1 hu0
    | str => obtain ⟨t, rfl⟩ := rv; exact RcNeAt.tuple_str _ t i1 hu0
    | lst h2 r2 => cases rv; obtain ⟨its2, q2, i2⟩ := lst_is ok h2; exact RcNeAt.tuple_list i1 i2 hu0
    | tup h2 r2 =>
      cases rv
      obtain ⟨its2, q2, i2⟩ := tup_is ok h2
      cases n with
      | zero => simp [D.plain] at hd
      | succ n =>
        simp only [D.plain] at hd he
        exact rn_tups (ih n (Nat.lt_succ_self n)) hd he r1 r2 q1 q2 i1 i2 hu
    | dK _ _ _ => cases n <;> simp [D.plain] at he
    | dT _ _ _ => cases n <;> simp [D.plain] at he
    | obj _ _ => cases n <;> simp [D.plain] at he
    | scr _ => cases n <;> simp [D.plain] at he
    | tab _ _ _ => cases n <;> simp [D.plain] at he
  | dK _ _ _ => cases n <;> simp [D.plain] at hd
  | dT _ _ _ => cases n <;> simp [D.plain] at hd
  | obj _ _ => cases n <;> simp [D.plain] at hd
  | scr _ => cases n <;> simp [D.plain] at hd
  | tab _ _ _ => cases n <;> simp [D.plain] at hd
end

/-! ### things that need not be plain throughout -/
theorem cmp_cases {n : Nat} {d e : D} (h : cmpble n d e = true) : (d.plain n = true ∧ e.plain n = true) ∨ (∃ m xs ys, n = m + 1 ∧ d = .tup xs ∧ e = .tup ys ∧ cmpbles m xs ys = true) ∨ ∃ m xs ys, n = m + 1 ∧ d = .lst xs ∧ e = .lst ys ∧ (xs.length ≠ ys.length ∨ cmpbles m xs ys = true) := by
  unfold cmpble at h
  split at h
  · exact .inr (.inl ⟨_, _, _, rfl, rfl, rfl, h⟩)
  · refine .inr (.inr ⟨_, _, _, rfl, rfl, rfl, ?_⟩)
    rw [Bool.or_eq_true] at h
    exact h.imp (fun z => by simpa using z) id
  · rw [Bool.and_eq_true] at h
    exact .inl h
section
variable {C : Ct} {H : Hp}
theorem sames_of {n : Nat} (ih : ∀ {d e : D} {v : V}, Rep C H d v → Rep C H e v → cmpble n d e = true → PyData.eqv d.py e.py = true) : ∀ {ds es : List D} {vs : List V}, Reps C H ds vs → Reps C H es vs → cmpbles n ds es = true → PyData.eqvAll (D.pys ds) (D.pys es) = true
  | _, _, _, .nil, h, _ => by cases h; rfl
  | d :: ds, _, _, .cons a b, h, hc => by
    cases h with
    | cons a' b' =>
      simp only [cmpbles, Bool.and_eq_true] at hc
      simp only [D.pys, PyData.eqvAll, Bool.and_eq_true]
      exact ⟨ih a a' hc.1, sames_of ih b b' hc.2⟩
theorem same_eqv : ∀ (n : Nat) {d e : D} {v : V}, Rep C H d v → Rep C H e v → cmpble n d e = true → PyData.eqv d.py e.py = true := by
  intro n
  induction n with
  | zero =>
    intro d e v r1 r2 h
    rcases cmp_cases h with ⟨h1, h2⟩ | ⟨m, _, _, z, _⟩ | ⟨m, _, _, z, _⟩
    · have := Rep.same r1 r2 h1 h2
      subst this
      exact eqv_self _ d h1
    · omega
    · omega
  | succ n ih =>
    intro d e v r1 r2 h
    rcases cmp_cases h with ⟨h1, h2⟩ | ⟨m, xs, ys, z, rfl, rfl, hc⟩ | ⟨m, xs, ys, z, rfl, rfl, hc⟩
    · have := Rep.same r1 r2 h1 h2
      subst this
      exact eqv_self _ d h1
    · have : m = n := by omega
      subst this
      cases r1 with
      | tup g1 q1 =>
        cases r2 with
        | tup g2 q2 =>
          rw [g1] at g2
          cases g2
          simp only [D.py, PyData.eqv]
          exact sames_of (fun a b c => ih a b c) q1 q2 hc
    · have : m = n := by omega
      subst this
      cases r1 with
      | lst g1 q1 =>
        cases r2 with
        | lst g2 q2 =>
          rw [g1] at g2
          cases g2
          simp only [D.py, PyData.eqv]
          rcases hc with hc | hc
          · exact (hc (by rw [Reps.length q1, Reps.length q2])).elim
          · exact sames_of (fun a b c => ih a b c) q1 q2 hc
end
section
variable {P : Program} {w : World} {C : Ct} {H : Hp} {s : Shared}
def PartsC (C : Ct) (H : Hp) (s : Shared) (n : Nat) : Prop := ∀ (d e : D) (A : Around) (x y : V) (u v : Value), cmpble n d e = true → Rep C H d x → Rep C H e y → RelV x u → RelV y v → A.units + n < cLine →
  EqAt A s u v (PyData.eqv d.py e.py)
theorem cmpbles_get : ∀ {n : Nat} {ds es : List D} {j : Nat} {d e : D}, cmpbles n ds es = true → ds[j]? = some d → es[j]? = some e → cmpble n d e = true
  | _, [], _, _, _, _, _, h, _ => by simp at h
  | _, _ :: _, [], _, _, _, _, _, h => by simp at h
  | n, x :: xs, y :: ys, 0, _, _, h, h1, h2 => by
    simp at h1 h2
    subst h1; subst h2
    simp only [cmpbles, Bool.and_eq_true] at h
    exact h.1
  | n, x :: xs, y :: ys, j + 1, _, _, h, h1, h2 => by
    simp only [cmpbles, Bool.and_eq_true] at h
    exact cmpbles_get h.2 (by simpa using h1) (by simpa using h2)
theorem parts_ofC {n : Nat} (ih : PartsC C H s n) {A : Around} {ds es : List D} {vs ws : List V} {us zs : List Value} (hc : cmpbles n ds es = true) (r1 : Reps C H ds vs) (r2 : Reps C H es ws) (q1 : Vals vs us) (q2 : Vals ws zs)
    (hu : A.units + n < cLine) : ∀ j (h1 : j < us.toArray.size) (h2 : j < zs.toArray.size), EqAt A s us.toArray[j] zs.toArray[j] (pairEq (D.pys ds) (D.pys es) j) := fun j h1 h2 => by
  have h1' : j < us.length := by simpa using h1
  have h2' : j < zs.length := by simpa using h2
  have l1 : j < vs.length := by rw [q1.length]; exact h1'
  have l2 : j < ws.length := by rw [q2.length]; exact h2'
  obtain ⟨a, ea, ra⟩ := Reps.getV r1 (List.getElem?_eq_getElem l1)
  obtain ⟨b, eb, rb⟩ := Reps.getV r2 (List.getElem?_eq_getElem l2)
  obtain ⟨u, eu, ru⟩ := q1.get (List.getElem?_eq_getElem l1)
  obtain ⟨z, ez, rz⟩ := q2.get (List.getElem?_eq_getElem l2)
  have e1 : us.toArray[j] = u := by
    have : us[j]? = some us.toArray[j] := by simp [h1']
    rw [eu] at this; exact (Option.some.inj this).symm
  have e2 : zs.toArray[j] = z := by
    have : zs[j]? = some zs.toArray[j] := by simp [h2']
    rw [ez] at this; exact (Option.some.inj this).symm
  have e3 : pairEq (D.pys ds) (D.pys es) j = PyData.eqv a.py b.py := by
    show PyData.eqv _ _ = _
    rw [pys_get, pys_get, List.getD_eq_getElem?_getD, List.getD_eq_getElem?_getD, ea, eb]
    rfl
  rw [e1, e2, e3]
  exact ih a b A _ _ u z (cmpbles_get hc ea eb) ra rb ru rz hu
theorem atom_eqC {A : Around} {d e : D} {x y : V} {u v : Value} {n : Nat} (hc : cmpble n d e = true) (rd : Rep C H d x) (re : Rep C H e y) (ru : RelV x u) (rv : RelV y v)
    (h : RcAt A s u v (PyData.eqv d.py e.py)) : EqAt A s u v (PyData.eqv d.py e.py) := fun prog w' E Q q => by
  unfold eqBool
  refine wpAny_holding ?_
  refine wpAny_ite_split (fun hab => ?_) (fun _ => ?_)
  rotate_left
  · cases u with
    | float b t =>
      have e0 : x = .flt b := ru.inj (show RelV (.flt b) (.float b t) from ⟨t, rfl⟩)
      subst e0
      cases rd
    | _ => exact wpAny_bind (h prog w' E _ (wpAny_truthy_bool q))
  have e1 := eq_of_beq hab
  subst e1
  have e2 : x = y := ru.inj rv
  subst e2
  rw [same_eqv n rd re hc] at q
  exact wpAny_bind (wpAny_rule (wpAny_pure q))
theorem rc_tupsC (ok : HOk P w H s.heap) {n : Nat} (ih : PartsC C H s n) {A : Around} {xs ys : List D} {x y : V} {u v : Value} (hc : cmpbles n xs ys = true) (rd : Rep C H (.tup xs) x) (re : Rep C H (.tup ys) y) (ru : RelV x u) (rv : RelV y v) (hu : A.units + (n + 1) < cLine) :
    RcAt A s u v (PyData.eqv (.tuple (D.pys xs)) (.tuple (D.pys ys))) ∧ RcNeAt A s u v (!PyData.eqv (.tuple (D.pys xs)) (.tuple (D.pys ys))) := by
  cases rd with
  | tup g1 r1 =>
    cases re with
    | tup g2 r2 =>
      cases ru; cases rv
      obtain ⟨us, q1, i1⟩ := tup_is ok g1
      obtain ⟨zs, q2, i2⟩ := tup_is ok g2
      have l1 : us.toArray.size = (D.pys xs).length := by rw [pys_length, Reps.length r1, q1.length]; simp
      have l2 : zs.toArray.size = (D.pys ys).length := by rw [pys_length, Reps.length r2, q2.length]; simp
      have h := RcAt.tuples (A := A) i1 i2 (by omega) (parts_ofC ih hc r1 r2 q1 q2 (by show A.units + 1 + n < cLine; omega))
      have h' := RcNeAt.tuples (A := A) i1 i2 (by omega) (parts_ofC ih hc r1 r2 q1 q2 (by show A.units + 1 + n < cLine; omega))
      have e := eqvAll_eq (D.pys xs) (D.pys ys)
      rw [l1, l2, e] at h h'
      exact ⟨by simpa only [PyData.eqv] using h, by simpa only [PyData.eqv] using h'⟩
theorem rc_lstsC (ok : HOk P w H s.heap) {n : Nat} (ih : PartsC C H s n) {A : Around} {xs ys : List D} {x y : V} {u v : Value} (hc : xs.length ≠ ys.length ∨ cmpbles n xs ys = true) (rd : Rep C H (.lst xs) x) (re : Rep C H (.lst ys) y) (ru : RelV x u) (rv : RelV y v) (hu : A.units + (n + 1) < cLine) :
    RcAt A s u v (PyData.eqv (.list (D.pys xs)) (.list (D.pys ys))) ∧ RcNeAt A s u v (!PyData.eqv (.list (D.pys xs)) (.list (D.pys ys))) := by
  cases rd with
  | lst g1 r1 =>
    cases re with
    | lst g2 r2 =>
      cases ru; cases rv
      obtain ⟨us, q1, i1⟩ := lst_is ok g1
      obtain ⟨zs, q2, i2⟩ := lst_is ok g2
      have l1 : us.toArray.size = (D.pys xs).length := by rw [pys_length, Reps.length r1, q1.length]; simp
      have l2 : zs.toArray.size = (D.pys ys).length := by rw [pys_length, Reps.length r2, q2.length]; simp
      by_cases hl : us.toArray.size = zs.toArray.size
      · have hc' : cmpbles n xs ys = true := by
          rcases hc with hc | hc
          · rw [pys_length] at l1 l2; omega
          · exact hc
        have h := RcAt.lists (A := A) i1 i2 hl (by omega) (parts_ofC ih hc' r1 r2 q1 q2 (by show A.units + 1 + n < cLine; omega))
        have h' := RcNeAt.lists (A := A) i1 i2 hl (by omega) (parts_ofC ih hc' r1 r2 q1 q2 (by show A.units + 1 + n < cLine; omega))
        have e : (List.range us.toArray.size).all (pairEq (D.pys xs) (D.pys ys)) = PyData.eqvAll (D.pys xs) (D.pys ys) := by
          rw [l1]
          exact eqvAll_same_length (by omega)
        rw [e] at h h'
        exact ⟨by simpa only [PyData.eqv] using h, by simpa only [PyData.eqv] using h'⟩
      · have h := RcAt.lists_lengths (A := A) i1 i2 (by simpa using hl) (by omega)
        have h' := RcNeAt.lists_lengths (A := A) i1 i2 (by simpa using hl) (by omega)
        have e : PyData.eqvAll (D.pys xs) (D.pys ys) = false := eqvAll_other_length (by omega)
        simp only [PyData.eqv, e]
        exact ⟨h, h'⟩
theorem partsC (ok : HOk P w H s.heap) : ∀ n, PartsC C H s n := by
  intro n
  induction n with
  | zero =>
    intro d e A x y u v hc rd re ru rv hu
    rcases cmp_cases hc with ⟨h1, h2⟩ | ⟨m, _, _, z, _⟩ | ⟨m, _, _, z, _⟩
    · exact parts_all ok 0 d e A x y u v h1 h2 rd re ru rv hu
    · omega
    · omega
  | succ n ih =>
    intro d e A x y u v hc rd re ru rv hu
    rcases cmp_cases hc with ⟨h1, h2⟩ | ⟨m, xs, ys, z, rfl, rfl, hc2⟩ | ⟨m, xs, ys, z, rfl, rfl, hc2⟩
    · exact parts_all ok _ d e A x y u v h1 h2 rd re ru rv hu
    · have : m = n := by omega
      subst this
      refine atom_eqC hc rd re ru rv ?_
      simp only [D.py]
      exact (rc_tupsC ok ih hc2 rd re ru rv hu).1
    · have : m = n := by omega
      subst this
      refine atom_eqC hc rd re ru rv ?_
      simp only [D.py]
      exact (rc_lstsC ok ih hc2 rd re ru rv hu).1
theorem rc_all (ok : HOk P w H s.heap) {n : Nat} {d e : D} {A : Around} {x y : V} {u v : Value} (hc : cmpble n d e = true) (rd : Rep C H d x) (re : Rep C H e y) (ru : RelV x u) (rv : RelV y v) (hu : A.units + n < cLine) : RcAt A s u v (PyData.eqv d.py e.py) ∧ RcNeAt A s u v (!PyData.eqv d.py e.py) := by
  rcases cmp_cases hc with ⟨h1, h2⟩ | ⟨m, xs, ys, z, rfl, rfl, hc2⟩ | ⟨m, xs, ys, z, rfl, rfl, hc2⟩
  · exact ⟨rc_at ok (fun m _ => parts_all ok m) d e A x y u v h1 h2 rd re ru rv hu, rn_at ok (fun m _ => parts_all ok m) d e A x y u v h1 h2 rd re ru rv hu⟩
  · subst z
    simp only [D.py]
    exact rc_tupsC ok (partsC ok m) hc2 rd re ru rv hu
  · subst z
    simp only [D.py]
    exact rc_lstsC ok (partsC ok m) hc2 rd re ru rv hu
end
/-- a == b -/
theorem op_eqT {X : Cx} {C : Ct} (hu : X.A.units + 64 < cLine) : OpR X (compareOp .Eq) (fun x y H Q => ∃ a b k, Rep C H a x ∧ Rep C H b y ∧ eqD a b = some k ∧ Q (.bl k) H) := by
  intro pins s σ H x y v u Q I rx ry ⟨a, b, k, ra, rb, e, q⟩
  unfold eqD at e
  split at e
  · rename_i hp
    cases e
    exact (rc_all (P := X.prog) (w := X.w) I.hok hp ra rb rx ry (by omega)).1 X.prog X.w X.xe _ ⟨.bl _, H, I, rfl, q⟩
  · cases e
/-- a != b -/
theorem op_neT {X : Cx} {C : Ct} (hu : X.A.units + 64 < cLine) : OpR X (compareOp .NotEq) (fun x y H Q => ∃ a b k, Rep C H a x ∧ Rep C H b y ∧ (eqD a b).map (! ·) = some k ∧ Q (.bl k) H) := by
  intro pins s σ H x y v u Q I rx ry ⟨a, b, k, ra, rb, e, q⟩
  unfold eqD at e
  split at e
  · rename_i hp
    cases e
    exact (rc_all (P := X.prog) (w := X.w) I.hok hp ra rb rx ry (by omega)).2 X.prog X.w X.xe _ ⟨.bl _, H, I, rfl, q⟩
  · cases e
end FJ

/-! Comparisons, items, slices, what is built in: by trees. -/
namespace FJ
open PySem L2 PySem.SeqAt

section
variable {C : Ct} {G H : Hp}
theorem Rep.inti {i : Int} {v : V} (r : Rep C H (.int i) v) : v = .int i := by cases r; rfl
theorem Rep.bli {i : Bool} {v : V} (r : Rep C H (.bl i) v) : v = .bl i := by cases r; rfl
theorem Rep.stri {i : Str} {v : V} (r : Rep C H (.str i) v) : v = .str i := by cases r; rfl
theorem Rep.nonv {v : V} (r : Rep C H .non v) : v = .non := by cases r; rfl
theorem Rep.us {d : D} {v : V} (r : Rep C G d v) : Us C G H d v := .inl r
theorem Same.rfl' : Same H H := Same.refl H
end

/-! ### in -/
noncomputable def eIn (C : Ct) (H : Hp) (n : Nat) (xp : PyData) (u : Value) : Bool := @decide (∃ d v, D.plain n d = true ∧ Rep C H d v ∧ RelV v u ∧ PyData.eqv d.py xp = true) (Classical.propDecidable _)
theorem eIn_of {C : Ct} {H : Hp} {n : Nat} {xp : PyData} {d : D} {v : V} {u : Value} (h : d.plain n = true) (r : Rep C H d v) (ru : RelV v u) : eIn C H n xp u = PyData.eqv d.py xp := by
  unfold eIn
  cases e : PyData.eqv d.py xp with
  | true => exact @decide_eq_true _ (Classical.propDecidable _) ⟨d, v, h, r, ru, e⟩
  | false =>
    refine @decide_eq_false _ (Classical.propDecidable _) fun ⟨d', v', h', r', ru', e'⟩ => ?_
    have ev := ru.inj ru'
    subst ev
    have ed := Rep.same r r' h h'
    subst ed
    rw [e] at e'; cases e'
theorem any_in {C : Ct} {H : Hp} {n : Nat} {xp : PyData} : ∀ {ds : List D} {vs : List V} {us : List Value}, D.plains n ds = true → Reps C H ds vs → Vals vs us → us.any (eIn C H n xp) = ds.any fun y => PyData.eqv y.py xp
  | _, _, _, _, .nil, .nil => rfl
  | d :: ds, _, _, h, .cons a b, .cons r t => by
    simp only [D.plains, Bool.and_eq_true] at h
    simp only [List.any_cons, any_in h.2 b t, eIn_of h.1 a r]
theorem all_in {P : Program} {w : World} {C : Ct} {H : Hp} {s : Shared} (ok : HOk P w H s.heap) {n : Nat} {A : Around} {d : D} {x : V} {v : Value} (hd : d.plain n = true) (rx : Rep C H d x) (ru : RelV x v) (hu : A.units + n < cLine) :
    ∀ {ds : List D} {vs : List V} {us : List Value}, D.plains n ds = true → Reps C H ds vs → Vals vs us → ∀ y, y ∈ us → EqAt A s y v (eIn C H n d.py y)
  | _, _, _, _, .nil, .nil, y, hy => by simp at hy
  | e :: ds, _, _, h, .cons a b, .cons r t, y, hy => by
    simp only [D.plains, Bool.and_eq_true] at h
    rcases List.mem_cons.mp hy with rfl | hy
    · rw [eIn_of h.1 a r]
      exact parts_all ok n e d A _ _ _ _ h.1 hd a rx r ru hu
    · exact all_in ok hd rx ru hu h.2 b t y hy
theorem str_one {a : Str} {c : Nat} (h : a.cps.toList = [c]) : a = ⟨#[c]⟩ := by
  cases a with
  | mk cps =>
    simp only at h
    congr 1
    rw [← Array.toArray_toList (xs := cps), h]
theorem mem_arr {us : List Value} {y : Value} (h : y ∈ us.toArray) : y ∈ us := by simpa using h

/-! ### keys -/
theorem keyF {C : Ct} {G : Hp} {d : D} {k : Key} {v : V} (h : keyOf d = some k) (r : Rep C G d v) : v = kV k := by
  cases d with
  | int i => cases h; cases r; rfl
  | str i => cases h; cases r; rfl
  | _ => cases h
theorem look2_is {κ : Type} [DecidableEq κ] {C : Ct} {G : Hp} {k : κ} : ∀ {ks : List κ} {ds : List D} {vs : List V}, Reps C G ds vs → (valV (ks.zip vs) k).isSome = (look2 k ks ds).isSome
  | [], _, _, _ => by simp [look2, valV]
  | _ :: _, _, _, .nil => by simp [look2, valV]
  | q :: ks, d1 :: ds, v1 :: vs, .cons r1 r2 => by
    have ih := look2_is (k := k) (ks := ks) r2
    unfold valV at ih ⊢
    simp only [look2]
    rw [List.zip_cons_cons, List.find?_cons]
    by_cases e : q = k
    · simp [e]
    · simp only [e, decide_false, if_false]
      exact ih
/-! ### comparisons -/
def rC (C : Ct) (o : Cop) : R2 := fun x y H Q => ∃ a b k, Rep C H a x ∧ Rep C H b y ∧ cmpD o a b = some k ∧ Q (.bl k) H
theorem op_cmp {X : Cx} {C : Ct} (hu : X.A.units + 64 < cLine ∧ X.K = C.K ∧ X.w = C.w) (o : CmpOp) : OpR X (compareOp o) (rC C (cmpOp o)) := by
  obtain ⟨hu, hK, hw⟩ := hu
  intro pins s σ H x y v u Q I rx ry ⟨a, b, k, ra, rb, e, q⟩
  cases o with
  | Eq => exact op_eqT hu pins s σ H x y v u Q I rx ry ⟨a, b, k, ra, rb, e, q⟩
  | NotEq => exact op_neT hu pins s σ H x y v u Q I rx ry ⟨a, b, k, ra, rb, e, q⟩
  | Lt =>
    cases a with
    | int i =>
      cases b with
      | int j => cases ra.inti; cases rb.inti; cases e; exact op_lt pins s σ H _ _ v u Q I rx ry ⟨i, j, rfl, rfl, q⟩
      | _ => cases e
    | _ => cases e
  | LtE =>
    cases a with
    | int i =>
      cases b with
      | int j => cases ra.inti; cases rb.inti; cases e; exact op_le pins s σ H _ _ v u Q I rx ry ⟨i, j, rfl, rfl, q⟩
      | _ => cases e
    | _ => cases e
  | Gt =>
    cases a with
    | int i =>
      cases b with
      | int j => cases ra.inti; cases rb.inti; cases e; exact op_gt pins s σ H _ _ v u Q I rx ry ⟨i, j, rfl, rfl, q⟩
      | _ => cases e
    | _ => cases e
  | GtE =>
    cases a with
    | int i =>
      cases b with
      | int j => cases ra.inti; cases rb.inti; cases e; exact op_ge pins s σ H _ _ v u Q I rx ry ⟨i, j, rfl, rfl, q⟩
      | _ => cases e
    | _ => cases e
  | Is =>
    cases b with
    | non =>
      cases rb.nonv
      have ek : some (decide (x = V.non)) = some k := by
        rw [← e]
        cases ra <;> simp [cmpOp, cmpD]
      cases ek
      exact op_isN pins s σ H _ _ v u Q I rx ry ⟨rfl, q⟩
    | bl j =>
      cases rb.bli
      cases a with
      | bl i =>
        cases ra.bli
        cases e
        cases rx; cases ry
        exact PySem.wpAny_is_plain rfl ⟨.bl _, H, I, by cases i <;> cases j <;> rfl, q⟩
      | non =>
        cases ra.nonv
        cases e
        cases rx; cases ry
        exact PySem.wpAny_is_plain rfl ⟨.bl _, H, I, rfl, q⟩
      | _ => cases e
    | _ => cases a <;> cases e
  | IsNot =>
    cases b with
    | non =>
      cases rb.nonv
      have ek : some (!decide (x = V.non)) = some k := by
        rw [← e]
        cases ra <;> simp [cmpOp, cmpD]
      cases ek
      exact op_notN pins s σ H _ _ v u Q I rx ry ⟨rfl, q⟩
    | bl j =>
      cases rb.bli
      cases a with
      | bl i =>
        cases ra.bli
        cases e
        cases rx; cases ry
        exact PySem.wpAny_isNot_plain rfl ⟨.bl _, H, I, by cases i <;> cases j <;> rfl, q⟩
      | non =>
        cases ra.nonv
        cases e
        cases rx; cases ry
        exact PySem.wpAny_isNot_plain rfl ⟨.bl _, H, I, rfl, q⟩
      | _ => cases e
    | _ => cases a <;> cases e
  | In =>
    cases b with
    | str z =>
      cases rb.stri
      cases a with
      | str y0 =>
        cases ra.stri
        simp only [cmpOp, cmpD, inD] at e
        split at e
        · rename_i c hc
          cases e
          cases str_one hc
          exact op_in_sign pins s σ H _ _ v u Q I rx ry ⟨c, z, rfl, rfl, q⟩
        · cases e
      | _ => cases e
    | lst ds =>
      have e' : (if a.plain 59 && D.plains 59 ds then some (ds.any fun y => PyData.eqv y.py a.py) else none) = some k := by
        cases a <;> exact e
      split at e'
      · rename_i hp
        cases e'
        rw [Bool.and_eq_true] at hp
        cases rb with
        | lst h r =>
          cases ry
          obtain ⟨its, q1, il⟩ := lst_is I.hok h
          refine in_listAt (eIn C H 59 a.py) il (fun y hy => all_in I.hok hp.1 ra rx (by show X.A.units + 1 + 59 < cLine; omega) hp.2 r q1 y (mem_arr hy)) ⟨.bl _, H, I, ?_, q⟩
          show Value.bool _ = Value.bool _
          congr 1
          rw [List.any_toArray]
          exact any_in hp.2 r q1
      · cases e'
    | tup ds =>
      have e' : (if a.plain 59 && D.plains 59 ds then some (ds.any fun y => PyData.eqv y.py a.py) else none) = some k := by
        cases a <;> exact e
      split at e'
      · rename_i hp
        cases e'
        rw [Bool.and_eq_true] at hp
        cases rb with
        | tup h r =>
          cases ry
          obtain ⟨its, q1, il⟩ := tup_is I.hok h
          refine in_tupleAt (eIn C H 59 a.py) il (fun y hy => all_in I.hok hp.1 ra rx (by show X.A.units + 1 + 59 < cLine; omega) hp.2 r q1 y (mem_arr hy)) ⟨.bl _, H, I, ?_, q⟩
          show Value.bool _ = Value.bool _
          congr 1
          rw [List.any_toArray]
          exact any_in hp.2 r q1
      · cases e'
    | dK ks ds =>
      have e' : (keyOf a).map (fun q => (look2 q ks ds).isSome) = some k := by
        cases a <;> exact e
      cases hk : keyOf a with
      | none => rw [hk] at e'; cases e'
      | some kk =>
        rw [hk] at e'
        cases e'
        cases rb with
        | dK h l r =>
          cases ry
          refine d_in (by omega) I (.inl ⟨_, kk, .inl h, keyF hk ra, rfl⟩) rx fun s' I' => ⟨.bl _, H, I', ?_, q⟩
          show Value.bool _ = Value.bool _
          rw [look2_is r]
    | tab ks ds ms =>
      cases a with
      | str y0 =>
        cases ra.stri
        simp only [cmpOp, cmpD, inD] at e
        cases rb with
        | @tab p _ _ vs ds z low h1 h2 rs =>
          split at e
          · rename_i hc
            cases e
            have hm : y0 ∈ ks := by simpa using hc
            obtain ⟨i, hi, hk⟩ := List.mem_iff_getElem.mp hm
            obtain ⟨v0, _, es, n, u0, q1, q2, q3, q4⟩ := h1 i y0 (by rw [List.getElem?_eq_getElem hi, hk])
            rw [← hK] at q1 q3
            rw [← hw] at q2
            exact op_in_kd (D := ⟨q1, q2, low⟩) pins s σ H _ _ v u Q I rx ry ⟨y0, _, rfl, rfl, q3, q⟩
          · split at e
            · rename_i hc
              cases e
              obtain ⟨es, n, q1, q2, _, q3⟩ := h2 y0 (by simpa using hc)
              rw [← hK] at q1 q3
              rw [← hw] at q2
              exact op_in_kd (D := ⟨q1, q2, low⟩) pins s σ H _ _ v u Q I rx ry ⟨y0, _, rfl, rfl, q3, q⟩
            · cases e
      | _ => cases e
    | _ => cases a <;> cases e
  | NotIn =>
    cases b with
    | str z =>
      cases rb.stri
      cases a with
      | str y0 =>
        cases ra.stri
        simp only [cmpOp, cmpD, inD] at e
        split at e
        · rename_i c hc
          cases e
          cases str_one hc
          exact op_notIn_sign pins s σ H _ _ v u Q I rx ry ⟨c, z, rfl, rfl, q⟩
        · cases e
      | _ => cases e
    | lst ds =>
      have e' : (if a.plain 59 && D.plains 59 ds then some (ds.any fun y => PyData.eqv y.py a.py) else none).map (! ·) = some k := by
        cases a <;> exact e
      split at e'
      · rename_i hp
        cases e'
        rw [Bool.and_eq_true] at hp
        cases rb with
        | lst h r =>
          cases ry
          obtain ⟨its, q1, il⟩ := lst_is I.hok h
          refine notIn_listAt (eIn C H 59 a.py) il (fun y hy => all_in I.hok hp.1 ra rx (by show X.A.units + 1 + 59 < cLine; omega) hp.2 r q1 y (mem_arr hy)) ⟨.bl _, H, I, ?_, q⟩
          show Value.bool _ = Value.bool _
          congr 2
          rw [List.any_toArray]
          exact any_in hp.2 r q1
      · cases e'
    | tup ds =>
      have e' : (if a.plain 59 && D.plains 59 ds then some (ds.any fun y => PyData.eqv y.py a.py) else none).map (! ·) = some k := by
        cases a <;> exact e
      split at e'
      · rename_i hp
        cases e'
        rw [Bool.and_eq_true] at hp
        cases rb with
        | tup h r =>
          cases ry
          obtain ⟨its, q1, il⟩ := tup_is I.hok h
          refine notIn_tupleAt (eIn C H 59 a.py) il (fun y hy => all_in I.hok hp.1 ra rx (by show X.A.units + 1 + 59 < cLine; omega) hp.2 r q1 y (mem_arr hy)) ⟨.bl _, H, I, ?_, q⟩
          show Value.bool _ = Value.bool _
          congr 2
          rw [List.any_toArray]
          exact any_in hp.2 r q1
      · cases e'
    | dK ks ds =>
      have e' : ((keyOf a).map (fun q => (look2 q ks ds).isSome)).map (! ·) = some k := by
        cases a <;> exact e
      cases hk : keyOf a with
      | none => rw [hk] at e'; cases e'
      | some kk =>
        rw [hk] at e'
        cases e'
        cases rb with
        | dK h l r =>
          cases ry
          refine d_notIn (by omega) I (.inl ⟨_, kk, .inl h, keyF hk ra, rfl⟩) rx fun s' I' => ⟨.bl _, H, I', ?_, q⟩
          show Value.bool _ = Value.bool _
          rw [look2_is r]
    | tab ks ds ms =>
      cases a with
      | str y0 =>
        cases ra.stri
        simp only [cmpOp, cmpD, inD] at e
        cases rb with
        | @tab p _ _ vs ds z low h1 h2 rs =>
          split at e
          · rename_i hc
            cases e
            have hm : y0 ∈ ks := by simpa using hc
            obtain ⟨i, hi, hk⟩ := List.mem_iff_getElem.mp hm
            obtain ⟨v0, _, es, n, u0, q1, q2, q3, q4⟩ := h1 i y0 (by rw [List.getElem?_eq_getElem hi, hk])
            rw [← hK] at q1 q3
            rw [← hw] at q2
            exact op_notIn_kd (D := ⟨q1, q2, low⟩) pins s σ H _ _ v u Q I rx ry ⟨y0, _, rfl, rfl, q3, q⟩
          · split at e
            · rename_i hc
              cases e
              obtain ⟨es, n, q1, q2, _, q3⟩ := h2 y0 (by simpa using hc)
              rw [← hK] at q1 q3
              rw [← hw] at q2
              exact op_notIn_kd (D := ⟨q1, q2, low⟩) pins s σ H _ _ v u Q I rx ry ⟨y0, _, rfl, rfl, q3, q⟩
            · cases e
      | _ => cases e
    | _ => cases a <;> cases e

/-! ### slices -/
def rSl (C : Ct) : V → Option Int → Option Int → Hp → VK → Prop := fun x lo hi H Q => ∃ G a t, Same G H ∧ Us C G H a x ∧ sliD a lo hi = some t ∧ Alc C G H t Q
theorem cut_reps {C : Ct} {G : Hp} {ds : List D} {vs : List V} (r : Reps C G ds vs) (lo hi : Option Int) : Reps C G (cut ds lo hi) (cutV vs lo hi) := by
  unfold cut cutV
  rw [Reps.length r]
  exact Reps.take _ (Reps.drop _ r)
theorem ints_reps {C : Ct} {G : Hp} : ∀ ns : List Int, Reps C G (ns.map .int) (ns.map V.int)
  | [] => .nil
  | _ :: r => .cons .int (ints_reps r)
theorem cut_map {α β : Type} (f : α → β) (xs : List α) (lo hi : Option Int) : cut (xs.map f) lo hi = (cut xs lo hi).map f := by
  unfold cut
  rw [List.length_map, ← List.map_drop, ← List.map_take]
theorem sl_any {X : Cx} {C : Ct} (hK : X.K = C.K) : SlR X (rSl C) := by
  intro pins s σ H x v vl vu lo hi sl Q I rx hs pl pu ⟨G, a, t, gh, ux, e, k⟩
  cases a with
  | lst ds =>
    cases e
    obtain ⟨p, vs, rfl, h, r⟩ := ux.lst gh
    exact sl_list pins s σ H _ v vl vu lo hi sl Q I rx hs pl pu ⟨p, vs, rfl, SqL.of h, fun q hq => k.own gh hq (.lst (cut_reps r lo hi))⟩
  | scr ns =>
    cases e
    obtain ⟨p, rfl, h⟩ := ux.scr gh
    rw [← hK] at h
    refine sl_list pins s σ H _ v vl vu lo hi sl Q I rx hs pl pu ⟨p, _, rfl, h, fun q hq => k.own gh hq (.lst ?_)⟩
    have := cut_reps (C := C) (G := G) (ints_reps ns) lo hi
    rw [cut_map] at this
    exact this
  | tup ds =>
    cases e
    obtain ⟨p, vs, rfl, h, g, r⟩ := ux.tup gh
    refine sl_tupA pins s σ H _ v vl vu lo hi sl Q I rx hs pl pu ⟨p, vs, rfl, SqT.of h, fun ⟨e1, e2⟩ => ?_, fun _ q hq => k.tup gh hq (cut_reps r lo hi)⟩
    have ec : cut ds lo hi = ds := by
      unfold cut
      rw [Reps.length r, e1, e2, List.drop_zero, Nat.sub_zero, ← Reps.length r, List.take_length]
    rw [ec] at k
    exact k.fr gh (.tup g r)
  | str z =>
    simp only [sliD] at e
    split at e
    · cases e
      cases ux.str
      exact sl_str pins s σ H _ v vl vu lo hi sl Q I rx hs pl pu ⟨z, rfl, by assumption, k.fr gh .str⟩
    · cases e
  | _ => cases e

/-! ### built in -/
def rBi (C : Ct) (f : BI) : List V → Hp → VK → Prop := fun vs H Q => ∃ G ds t, Same G H ∧ Paired (Us C G H) ds vs ∧ biD f ds = some t ∧ Alc C G H t Q
def idB : BI → String
  | .len => "len" | .sum => "sum" | .all => "all" | .any => "any" | .max => "max" | .min => "min" | .divmod => "divmod" | .sorted => "sorted" | _ => "?"
def idT : BI → String
  | .list => "list" | .tuple => "tuple" | .int => "int" | .str => "str" | .dict => "dict" | _ => "?"
theorem one_of {C : Ct} {G H : Hp} {d : D} {vs : List V} (h : Paired (Us C G H) [d] vs) : ∃ v, vs = [v] ∧ Us C G H d v := by
  cases h with
  | cons a b => cases b; exact ⟨_, rfl, a⟩
theorem two_of {C : Ct} {G H : Hp} {d e : D} {vs : List V} (h : Paired (Us C G H) [d, e] vs) : ∃ v u, vs = [v, u] ∧ Us C G H d v ∧ Us C G H e u := by
  cases h with
  | cons a b =>
    cases b with
    | cons c d => cases d; exact ⟨_, _, rfl, a, c⟩
theorem ints_of {C : Ct} {G : Hp} : ∀ {ds : List D} {vs : List V} {ns : List Int}, Reps C G ds vs → intsOf ds = some ns → vs = ns.map V.int
  | [], _, _, .nil, e => by cases e; rfl
  | d :: ds, _, ns, .cons a b, e => by
    cases d with
    | int i =>
      simp only [intsOf] at e
      cases h : intsOf ds with
      | none => rw [h] at e; cases e
      | some ms => rw [h] at e; cases e; rw [ints_of b h, a.inti]; rfl
    | _ => cases e
theorem bls_of {C : Ct} {G : Hp} : ∀ {ds : List D} {vs : List V} {ns : List Bool}, Reps C G ds vs → blsOf ds = some ns → vs = ns.map V.bl
  | [], _, _, .nil, e => by cases e; rfl
  | d :: ds, _, ns, .cons a b, e => by
    cases d with
    | bl i =>
      simp only [blsOf] at e
      cases h : blsOf ds with
      | none => rw [h] at e; cases e
      | some ms => rw [h] at e; cases e; rw [bls_of b h, a.bli]; rfl
    | _ => cases e
theorem call_bi {X : Cx} {C : Ct} (hK : X.K = C.K) (hc : X.calm = true) {f : BI} (hf : f = .len ∨ f = .sum ∨ f = .all ∨ f = .any ∨ f = .max ∨ f = .min ∨ f = .divmod) : CallR X (.builtin (idB f)) (rBi C f) := by
  intro pins s σ H vs us Q I r ⟨G, ds, t, gh, ps, e, k⟩
  rcases hf with rfl | rfl | rfl | rfl | rfl | rfl | rfl
  · -- len
    cases ds with
    | nil => cases e
    | cons d ds =>
      cases ds with
      | nil =>
        obtain ⟨v, rfl, uv⟩ := one_of ps
        cases d with
        | scr ns =>
          cases e
          obtain ⟨p, rfl, h⟩ := uv.scr gh
          rw [← hK] at h
          have := call_len_seq pins s σ H _ us Q I r ⟨p, _, rfl, .inl h, by rw [List.length_map]; exact k.fr gh .int⟩
          exact this
        | lst xs =>
          cases e
          obtain ⟨p, ws, rfl, h, rr⟩ := uv.lst gh
          exact call_len_seq pins s σ H _ us Q I r ⟨p, ws, rfl, .inl (SqL.of h), by rw [← Reps.length rr]; exact k.fr gh .int⟩
        | tup xs =>
          cases e
          obtain ⟨p, ws, rfl, h, g, rr⟩ := uv.tup gh
          exact call_len_seq pins s σ H _ us Q I r ⟨p, ws, rfl, .inr (SqT.of h), by rw [← Reps.length rr]; exact k.fr gh .int⟩
        | str z =>
          simp only [biD] at e
          split at e
          · cases e
            cases uv.str
            exact call_len_str pins s σ H _ us Q I r ⟨z, rfl, by assumption, k.fr gh .int⟩
          · cases e
        | dK ks xs =>
          cases e
          obtain ⟨p, ws, rfl, h, l, rr⟩ := uv.dK gh
          refine call_lenD pins s σ H _ us Q I r ⟨p, _, rfl, h, ?_⟩
          rw [List.length_zip, l, ← Reps.length rr, Nat.min_self]
          exact k.fr gh .int
        | dT ks xs =>
          cases e
          obtain ⟨p, ws, rfl, h, l, rr⟩ := uv.dT gh
          refine call_len_dT pins s σ H _ us Q I r ⟨p, _, rfl, h, ?_⟩
          rw [List.length_zip, l, ← Reps.length rr, Nat.min_self]
          exact k.fr gh .int
        | _ => cases e
      | cons _ _ => cases d <;> cases e
  · -- sum
    cases ds with
    | nil => cases e
    | cons d ds =>
      cases ds with
      | nil =>
        obtain ⟨v, rfl, uv⟩ := one_of ps
        cases d with
        | lst xs =>
          simp only [biD] at e
          cases hn : intsOf xs with
          | none => rw [hn] at e; cases e
          | some ns =>
            rw [hn] at e
            cases e
            obtain ⟨p, ws, rfl, h, rr⟩ := uv.lst gh
            rw [ints_of rr hn] at h
            exact cr_sum hc pins s σ H _ us Q I r ⟨p, ns, rfl, SqL.of h, k.fr gh .int⟩
        | _ => cases e
      | cons _ _ => cases d <;> cases e
  · -- all
    cases ds with
    | nil => cases e
    | cons d ds =>
      cases ds with
      | nil =>
        obtain ⟨v, rfl, uv⟩ := one_of ps
        cases d with
        | lst xs =>
          simp only [biD] at e
          cases hn : blsOf xs with
          | none => rw [hn] at e; cases e
          | some ns =>
            rw [hn] at e
            cases e
            obtain ⟨p, ws, rfl, h, rr⟩ := uv.lst gh
            rw [bls_of rr hn] at h
            exact cr_all hc pins s σ H _ us Q I r ⟨p, ns, rfl, SqL.of h, k.fr gh .bl⟩
        | _ => cases e
      | cons _ _ => cases d <;> cases e
  · -- any
    cases ds with
    | nil => cases e
    | cons d ds =>
      cases ds with
      | nil =>
        obtain ⟨v, rfl, uv⟩ := one_of ps
        cases d with
        | lst xs =>
          simp only [biD] at e
          cases hn : blsOf xs with
          | none => rw [hn] at e; cases e
          | some ns =>
            rw [hn] at e
            cases e
            obtain ⟨p, ws, rfl, h, rr⟩ := uv.lst gh
            rw [bls_of rr hn] at h
            exact cr_any hc pins s σ H _ us Q I r ⟨p, ns, rfl, SqL.of h, k.fr gh .bl⟩
        | _ => cases e
      | cons _ _ => cases d <;> cases e
  · -- max
    cases ds with
    | nil => cases e
    | cons d ds =>
      cases ds with
      | nil => cases d <;> cases e
      | cons d2 ds =>
        cases ds with
        | cons _ _ => cases d <;> cases d2 <;> cases e
        | nil =>
          obtain ⟨v, u, rfl, uv, uu⟩ := two_of ps
          cases d with
          | int i =>
            cases d2 with
            | int j =>
              cases e
              cases uv.int; cases uu.int
              exact call_max2 hc pins s σ H _ us Q I r ⟨i, j, rfl, k.fr gh .int⟩
            | _ => cases e
          | _ => cases d2 <;> cases e
  · -- min
    cases ds with
    | nil => cases e
    | cons d ds =>
      cases ds with
      | nil => cases d <;> cases e
      | cons d2 ds =>
        cases ds with
        | cons _ _ => cases d <;> cases d2 <;> cases e
        | nil =>
          obtain ⟨v, u, rfl, uv, uu⟩ := two_of ps
          cases d with
          | int i =>
            cases d2 with
            | int j =>
              cases e
              cases uv.int; cases uu.int
              exact call_min2 hc pins s σ H _ us Q I r ⟨i, j, rfl, k.fr gh .int⟩
            | _ => cases e
          | _ => cases d2 <;> cases e
  · -- divmod
    cases ds with
    | nil => cases e
    | cons d ds =>
      cases ds with
      | nil => cases d <;> cases e
      | cons d2 ds =>
        cases ds with
        | cons _ _ => cases d <;> cases d2 <;> cases e
        | nil =>
          obtain ⟨v, u, rfl, uv, uu⟩ := two_of ps
          cases d with
          | int i =>
            cases d2 with
            | int j =>
              simp only [biD] at e
              split at e
              · rename_i hd
                cases e
                cases uv.int; cases uu.int
                exact call_divmod pins s σ H _ us Q I r ⟨i, j, rfl, hd, fun p hp => k.tup gh hp (.cons .int (.cons .int .nil))⟩
              · cases e
            | _ => cases e
          | _ => cases d2 <;> cases e
theorem call_bt {X : Cx} {C : Ct} (hc : X.calm = true) {f : BI} (hf : f = .list ∨ f = .tuple ∨ f = .int) : CallR X (.type (idT f)) (rBi C f) := by
  intro pins s σ H vs us Q I r ⟨G, ds, t, gh, ps, e, k⟩
  cases ds with
  | nil => rcases hf with rfl | rfl | rfl <;> cases e
  | cons d ds =>
    cases ds with
    | cons _ _ => rcases hf with rfl | rfl | rfl <;> cases d <;> cases e
    | nil =>
      obtain ⟨v, rfl, uv⟩ := one_of ps
      rcases hf with rfl | rfl | rfl
      · cases d with
        | lst xs =>
          cases e
          obtain ⟨p, ws, rfl, h, rr⟩ := uv.lst gh
          exact call_list_of pins s σ H _ us Q I r ⟨p, ws, rfl, .inl (SqL.of h), fun l hl => k.own gh hl (.lst rr)⟩
        | tup xs =>
          cases e
          obtain ⟨p, ws, rfl, h, g, rr⟩ := uv.tup gh
          exact call_list_of pins s σ H _ us Q I r ⟨p, ws, rfl, .inr (SqT.of h), fun l hl => k.own gh hl (.lst rr)⟩
        | _ => cases e
      · cases d with
        | lst xs =>
          cases e
          obtain ⟨p, ws, rfl, h, rr⟩ := uv.lst gh
          exact call_tuple_of pins s σ H _ us Q I r ⟨p, ws, rfl, .inl ⟨SqL.of h, fun l hl => k.tup gh hl rr⟩⟩
        | tup xs =>
          cases e
          obtain ⟨p, ws, rfl, h, g, rr⟩ := uv.tup gh
          exact call_tuple_of pins s σ H _ us Q I r ⟨p, ws, rfl, .inr ⟨SqT.of h, k.fr gh (.tup g rr)⟩⟩
        | _ => cases e
      · cases d with
        | int i =>
          cases e
          cases uv.int
          exact call_int1 pins s σ H _ us Q I r (.inl ⟨i, rfl, k.fr gh .int⟩)
        | bl b =>
          cases e
          cases uv.bl
          exact call_int1 pins s σ H _ us Q I r (.inr ⟨b, rfl, k.fr gh .int⟩)
        | _ => cases e
/-! ### methods of what is built in -/
def rMt (C : Ct) (m : MT) : V → List V → Hp → VK → Prop := fun x vs H Q => ∃ G d ds t, Same G H ∧ Us C G H d x ∧ Paired (Us C G H) ds vs ∧ mtD m d ds = some t ∧ Alc C G H t Q
end FJ

/-! Each form of the small language. -/
namespace FJ
open PySem L2

section imp
variable {X : Cx}
theorem PE.imp {e : Expr} {t t' : TE} (h : PE X e t) (k : ∀ σ H Q, t' σ H Q → t σ H Q) : PE X e t' := ⟨fun pins s σ H Q I q => h.run pins s σ H Q I (k σ H Q q)⟩
theorem PT.imp {e : Expr} {t t' : TT} (h : PT X e t) (k : ∀ σ H Q, t' σ H Q → t σ H Q) : PT X e t' := ⟨fun pins s σ H Q I q => h.run pins s σ H Q I (k σ H Q q)⟩
theorem PW.imp {e : Expr} {t t' : TT} (h : PW X e t) (k : ∀ σ H Q, t' σ H Q → t σ H Q) : PW X e t' := ⟨fun w pins s σ H Q I q => h.run w pins s σ H Q I (k σ H Q q)⟩
theorem PA.imp {e : List Expr} {t t' : TA} (h : PA X e t) (k : ∀ σ H Q, t' σ H Q → t σ H Q) : PA X e t' := ⟨fun p pins s σ H Q I q => h.run p pins s σ H Q I (k σ H Q q)⟩
theorem PO.imp {e : Option Expr} {t t' : TO} (h : PO X e t) (k : ∀ σ H Q, t' σ H Q → t σ H Q) : PO X e t' := ⟨fun pins s σ H Q I q => h.run pins s σ H Q I (k σ H Q q)⟩
theorem PI.imp {tg e : Expr} {t t' : TI} (h : PI X tg e t) (k : ∀ σ H Q, t' σ H Q → t σ H Q) : PI X tg e t' := ⟨fun pins s σ H Q I q => h.run pins s σ H Q I (k σ H Q q)⟩
theorem PG.imp {e : Expr} {t t' : TG} (h : PG X e t) (k : ∀ v σ H Q, t' v σ H Q → t v σ H Q) : PG X e t' := ⟨fun pins s σ H v u Q I r q => h.run pins s σ H v u Q I r (k v σ H Q q)⟩
theorem PS.imp {e : Stmt} {t t' : TS} (h : PS X e t) (k : ∀ D σ H, t' D σ H → t D σ H) : PS X e t' := ⟨fun pins s σ H D I q => h.run pins s σ H D I (k D σ H q)⟩
theorem PSs.imp {e : List Stmt} {t t' : TS} (h : PSs X e t) (k : ∀ D σ H, t' D σ H → t D σ H) : PSs X e t' := ⟨fun pins s σ H D I q => h.run pins s σ H D I (k D σ H q)⟩
/-- one of two ways to read it -/
theorem PE.or' {e : Expr} {t t' : TE} (h : PE X e t) (h' : PE X e t') : PE X e (fun σ H Q => t σ H Q ∨ t' σ H Q) := ⟨fun pins s σ H Q I q => q.elim (h.run pins s σ H Q I) (h'.run pins s σ H Q I)⟩
theorem PI.or' {tg e : Expr} {t t' : TI} (h : PI X tg e t) (h' : PI X tg e t') : PI X tg e (fun σ H Q => t σ H Q ∨ t' σ H Q) := ⟨fun pins s σ H Q I q => q.elim (h.run pins s σ H Q I) (h'.run pins s σ H Q I)⟩
theorem PE.any {ι : Sort _} {e : Expr} {t : ι → TE} (h : ∀ i, PE X e (t i)) : PE X e (fun σ H Q => ∃ i, t i σ H Q) := ⟨fun pins s σ H Q I ⟨i, q⟩ => (h i).run pins s σ H Q I q⟩
end imp

section
variable {C : Ct} {G H G' H' : Hp} {P P' : Nat → Addr → Prop} {r r' : Env} {σ σ' : St} {A B : Addr → Prop} {x : Val} {v : V} {t : T} {d : D} {Q K : VK} {e : E}
theorem R.use_ok {p : Bool} {q : R} {k : D → Env → R} {y : Val} (h : q.use p k = .ok y r') : ∃ x r1, q = .ok x r1 ∧ k x.toD (useE p x r1) = .ok y r' := by
  cases q with
  | ok x r1 => exact ⟨x, r1, rfl, h⟩
  | stuck => cases h
theorem R.look_ok {p : Bool} {q : R} {k : D → Env → R} {y : Val} (h : q.look p k = .ok y r') : ∃ x r1, q = .ok x r1 ∧ k x.toD (lookE p x r1) = .ok y r' := by
  cases q with
  | ok x r1 => exact ⟨x, r1, rfl, h⟩
  | stuck => cases h
theorem R.tru_ok {q : R} {b : Bool} (h : q.tru = some (b, r')) : ∃ x r1, q = .ok x r1 ∧ truD x.toD = some b ∧ r' = lookE true x r1 := by
  cases q with
  | stuck => cases h
  | ok x r1 =>
    have h' : (match truD x.toD with | some b => some (b, lookE true x r1) | none => none) = some (b, r') := h
    cases ht : truD x.toD with
    | none => rw [ht] at h'; cases h'
    | some c =>
      rw [ht] at h'
      cases h'
      exact ⟨x, r1, rfl, ht, rfl⟩
theorem R.tru_of {x : Val} {b : Bool} (h : truD x.toD = some b) : (R.ok x r).tru = some (b, lookE true x r) := by
  unfold R.tru
  simp only [h]
theorem ofT_ok {o : Option T} {y : Val} (h : ofT o r = .ok y r') : ∃ t, o = some t ∧ y = .v t ∧ r' = r := by
  cases o with
  | none => cases h
  | some t => cases h; exact ⟨t, rfl, rfl, rfl⟩
theorem ofD_ok {o : Option D} {y : Val} (h : ofD o r = .ok y r') : ∃ t, o = some t ∧ y = .v (.fr t) ∧ r' = r := by
  cases o with
  | none => cases h
  | some t => cases h; exact ⟨t, rfl, rfl, rfl⟩
theorem andT {a b : Bool} (h : (a && b) = true) : a = true ∧ b = true := by simpa using h
/-- the end with a value that stands still -/
theorem Post.fr {G0 H0 : Hp} {P0 : Nat → Addr → Prop} {pu : Bool} (k : Post C G0 H0 P0 r σ pu (.v (.fr d)) Q) (st : Sst C G H P r σ) (s : Stp G0 H0 P0 G H P) (hp : pu = true → Same H0 H) (h : Rep C G d v) : Q v H :=
  k v G H P (fun _ => False) st s (Res.fr h) (fun _ z => z.elim) hp
theorem tE_settle (st : Sst C G H P r σ) (h : ev e r = .ok x r')
    (k : ∀ v G1 P1 H1, Sst C G1 H1 P1 (useE false x r') σ → Stp G H P G1 H1 P1 → Rep C G1 x.toD v → (e.pu = true → Same H H1) → K v H1) : tE C e σ H K :=
  tE_at st h fun v G' H' P' A st' s' res hA hp => by
    obtain ⟨G1, P1, st1, s1, rp⟩ := settle_ok st' s' res hA
    exact k v G1 P1 H' st1 s1 rp hp
theorem tE_use (p : Bool) (st : Sst C G H P r σ) (h : ev e r = .ok x r')
    (k : ∀ v G1 H1 P1, Sst C G1 H1 P1 (useE p x r') σ → Stp G H P G1 H1 P1 → (∀ G2 H2 P2, Stp G1 H1 P1 G2 H2 P2 → (p = true → Same H1 H2) → Us C G2 H2 x.toD v) → (e.pu = true → Same H H1) → K v H1) : tE C e σ H K :=
  tE_at st h fun v G' H' P' A st' s' res hA hp => by
    obtain ⟨G1, P1, st1, s1, u⟩ := use_ok p st' s' res hA
    exact k v G1 H' P1 st1 s1 u hp
theorem tE_look (p : Bool) (st : Sst C G H P r σ) (h : ev e r = .ok x r')
    (k : ∀ v G1 H1 P1, Sst C G1 H1 P1 (lookE p x r') σ → Stp G H P G1 H1 P1 → (∀ G2 H2 P2, Stp G1 H1 P1 G2 H2 P2 → Same G2 H2 → (p = true → Same H1 H2) → Rep C H2 x.toD v) → (e.pu = true → Same H H1) → K v H1) : tE C e σ H K :=
  tE_at st h fun v G' H' P' A st' s' res hA hp => by
    obtain ⟨G1, P1, st1, s1, u⟩ := look_ok p st' s' res hA
    exact k v G1 H' P1 st1 s1 u hp
end

theorem Post.step {C : Ct} {G H G1 H1 : Hp} {P P1 : Nat → Addr → Prop} {r' : Env} {σ : St} {q pq : Bool} {y : Val} {Q : VK} (k : Post C G H P r' σ pq y Q) (s1 : Stp G H P G1 H1 P1) (hs : pq = true → Same H H1) (hq : pq = true → q = true) : Post C G1 H1 P1 r' σ q y Q :=
  fun v G' H' P' A st' s' res hA hp => k v G' H' P' A st' (s1.trans s') res (fun a ha => (hA a ha).elim (fun ⟨j, hj⟩ => s1.pp j a hj) fun z => .inr (s1.ld a z)) fun h => (hs h).trans (hp (hq h))

/-! ### readings -/
def tT (C : Ct) (e : E) : TT := fun σ H Q => ∃ G P r b r', Sst C G H P r σ ∧ (ev e r).tru = some (b, r') ∧ ∀ G' H' P', Sst C G' H' P' r' σ → Stp G H P G' H' P' → (e.pu = true → Same H H') → Q b H'
def tEs (C : Ct) (es : Es) : TA := fun σ H Q => ∃ G P r ds r', Sst C G H P r σ ∧ evs es r = .ok ds r' ∧ ∀ vs G' H' P', Sst C G' H' P' r' σ → Stp G H P G' H' P' → Reps C G' ds vs → (es.pu = true → Same H H') → Q vs H'
def tEu (C : Ct) (es : Es) : TA := fun σ H Q => ∃ G P r ds r', Sst C G H P r σ ∧ evu es r = .ok ds r' ∧ ∀ vs G' H' P', Sst C G' H' P' r' σ → Stp G H P G' H' P' → Paired (Us C G' H') ds vs → (es.pu = true → Same H H') → Q vs H'
def tO (C : Ct) (e : Oe) : TO := fun σ H Q => ∃ G P r o r', Sst C G H P r σ ∧ evo e r = some (o, r') ∧ ∀ G' H' P', Sst C G' H' P' r' σ → Stp G H P G' H' P' → (e.pu = true → Same H H') → Q o H'

section
variable {X : Cx} {C : Ct} {a b c : Expr} {ea eb ec : E} {pos : Pos}
theorem ge_var {i : Nat} {x : Str} (hN : X.N[i]? = some x) (hv : Vis X.env.scope x) (hd : (x == ("__debug__" : Str)) = false) (hcd : (x == ("__classdict__" : Str)) = false) : PE X (.Name x pos) (tE C (.var i)) := by
  refine PE.imp (pe_var hN hv hd hcd) fun σ H Q ⟨G, P, r, y, r', st, e, k⟩ => ?_
  simp only [ev] at e
  split at e
  · rename_i d hd
    cases e
    obtain ⟨v, h1, h2⟩ := st.sl i _ hd
    refine ⟨v, h1, ?_⟩
    cases h2 with
    | fr rp n => exact k.fr st (Stp.refl ..) (fun _ => Same.refl _) rp
  · rename_i t _ ht
    cases e
    obtain ⟨v, h1, h2⟩ := st.sl i _ ht
    exact ⟨v, h1, k v G H P (fun _ => False) st (Stp.refl ..) ⟨fun _ z => z, _, h2, fun a h => h⟩ (fun _ z => z.elim) fun _ => Same.refl _⟩
  · cases e
theorem ge_cst {e : Expr} {d : D} {v : V} (h : PE X e (tC v)) (rp : ∀ σ H G P r, Sst C G H P r σ → Rep C G d v) : PE X e (tE C (.cst d)) := by
  refine PE.imp h fun σ H Q ⟨G, P, r, y, r', st, e, k⟩ => ?_
  simp only [ev] at e
  cases e
  exact k.fr st (Stp.refl ..) (fun _ => Same.refl _) (rp σ H G P r st)
theorem ge_neg (ha : PE X a (tE C ea)) : PE X (.UnaryOp .USub a pos) (tE C (.neg ea)) := by
  refine PE.imp (pe_un un_neg ha) fun σ H Q ⟨G, P, r, y, r', st, e, k⟩ => ?_
  simp only [ev] at e
  obtain ⟨x1, r1, h1, e⟩ := R.use_ok e
  refine tE_use true st h1 fun v1 G1 H1 P1 st1 s1 u1 p1 => ?_
  split at e
  · rename_i i hi
    cases e
    have u := u1 _ _ _ (Stp.refl ..) fun _ => Same.refl _
    rw [hi] at u
    cases u.int
    exact ⟨i, rfl, k.fr st1 s1 p1 .int⟩
  · cases e
theorem ge_bin (hK : X.K = C.K) {o : Bop} (ha : PE X a (tE C ea)) (hb : PE X b (tE C eb)) : PE X (.BinOp a (opOf o) b pos) (tE C (.bin o ea eb)) := by
  refine PE.imp (pe_op (op_bin hK o) ha hb) fun σ H Q ⟨G, P, r, y, r', st, e, k⟩ => ?_
  simp only [ev] at e
  obtain ⟨x1, r1, h1, e⟩ := R.use_ok e
  obtain ⟨x2, r2, h2, e⟩ := R.use_ok e
  obtain ⟨t, ht, rfl, rfl⟩ := ofT_ok e
  refine tE_use eb.pu st h1 fun v1 G1 H1 P1 st1 s1 u1 p1 => ?_
  refine tE_use true st1 h2 fun v2 G2 H2 P2 st2 s2 u2 p2 => ?_
  exact ⟨G2, _, _, t, st2.gh, u1 _ _ _ s2 p2, u2 _ _ _ (Stp.refl ..) fun _ => Same.refl _, ht, k.alc st2 (s1.trans s2) fun h => (p1 (andT h).1).trans (p2 (andT h).2)⟩
theorem cmp_read {o : Cop} {σ : St} {H : Hp} {Q : VK} (q : tE C (.cmp o ea eb) σ H Q) : tOp (rC C o) (tE C ea) (tE C eb) σ H Q := by
  obtain ⟨G, P, r, y, r', st, e, k⟩ := q
  simp only [ev] at e
  obtain ⟨x1, r1, h1, e⟩ := R.look_ok e
  obtain ⟨x2, r2, h2, e⟩ := R.look_ok e
  obtain ⟨t, ht, rfl, rfl⟩ := ofD_ok e
  refine tE_look eb.pu st h1 fun v1 G1 H1 P1 st1 s1 u1 p1 => ?_
  refine tE_look true st1 h2 fun v2 G2 H2 P2 st2 s2 u2 p2 => ?_
  cases hc : cmpD o x1.toD x2.toD with
  | none => rw [hc] at ht; cases ht
  | some b =>
    rw [hc] at ht
    cases ht
    exact ⟨_, _, b, u1 _ _ _ s2 st2.gh p2, u2 _ _ _ (Stp.refl ..) st2.gh fun _ => Same.refl _, hc, k.fr st2 (s1.trans s2) (fun h => (p1 (andT h).1).trans (p2 (andT h).2)) .bl⟩
theorem ge_cmp (hu : X.A.units + 64 < cLine ∧ X.K = C.K ∧ X.w = C.w) {o : CmpOp} (ha : PE X a (tE C ea)) (hb : PE X b (tE C eb)) (hm : behindInMarks o b = false) : PE X (.Compare a [o] [b] pos) (tE C (.cmp (cmpOp o) ea eb)) :=
  PE.imp (pe_cmpR (op_cmp (C := C) hu o) ha hb hm) fun σ H Q q => cmp_read q
theorem chain_read {o u : Cop} {σ : St} {H : Hp} {Q : VK} (q : tE C (.chain o u ea eb ec) σ H Q) : tChain (rC C o) (rC C u) (tE C ea) (tE C eb) (tE C ec) σ H Q := by
  obtain ⟨G, P, r, y, r', st, e, k⟩ := q
  simp only [ev] at e
  obtain ⟨x1, r1, h1, e⟩ := R.look_ok e
  obtain ⟨x2, r2, h2, e⟩ := R.look_ok e
  refine tE_look eb.pu st h1 fun v1 G1 H1 P1 st1 s1 u1 p1 => ?_
  refine tE_look ec.pu st1 h2 fun v2 G2 H2 P2 st2 s2 u2 p2 => ?_
  cases hc : cmpD o x1.toD x2.toD with
  | none => rw [hc] at e; cases e
  | some b =>
    rw [hc] at e
    refine ⟨_, _, b, u1 _ _ _ s2 st2.gh p2, u2 _ _ _ (Stp.refl ..) st2.gh fun _ => Same.refl _, hc, b, rfl, ?_⟩
    cases b with
    | false =>
      cases e
      exact k.fr st2 (s1.trans s2) (fun h => (p1 (andT h).1).trans (p2 (andT (andT h).2).1)) .bl
    | true =>
      obtain ⟨x3, r3, h3, e⟩ := R.look_ok e
      obtain ⟨t, ht, rfl, rfl⟩ := ofD_ok e
      show tE C ec σ H2 _
      refine tE_look true st2 h3 fun v3 G3 H3 P3 st3 s3 u3 p3 => ?_
      cases hc3 : cmpD u x2.toD x3.toD with
      | none => rw [hc3] at ht; cases ht
      | some b =>
        rw [hc3] at ht
        cases ht
        exact ⟨_, _, b, u2 _ _ _ s3 st3.gh p3, u3 _ _ _ (Stp.refl ..) st3.gh fun _ => Same.refl _, hc3, k.fr st3 ((s1.trans s2).trans s3) (fun h => ((p1 (andT h).1).trans (p2 (andT (andT h).2).1)).trans (p3 (andT (andT h).2).2)) .bl⟩
theorem marks_no {o u : CmpOp} {b d : Expr} (h1 : isSet b = false) (h2 : isSet d = false) : lastMarks [o, u] [b, d] = false := by
  show behindInMarks u d = false
  cases d <;> first | (simp [isSet] at h2; done) | (cases u <;> rfl)
theorem ge_chain (hu : X.A.units + 64 < cLine ∧ X.K = C.K ∧ X.w = C.w) {o u : CmpOp} (ha : PE X a (tE C ea)) (hb : PE X b (tE C eb)) (hc : PE X c (tE C ec)) (h1 : isSet b = false) (h2 : isSet c = false) : PE X (.Compare a [o, u] [b, c] pos) (tE C (.chain (cmpOp o) (cmpOp u) ea eb ec)) :=
  PE.imp (pe_chain (op_cmp (C := C) hu o) (op_cmp (C := C) hu u) ha hb hc (marks_no h1 h2)) fun σ H Q q => chain_read q
variable {rest : List Expr}
theorem ge_and (ha : PE X a (tE C ea)) (hb : PE X (.BoolOp .And (b :: rest) pos) (tE C eb)) : PE X (.BoolOp .And (a :: b :: rest) pos) (tE C (.and ea eb)) := by
  refine PE.imp (pe_and ha hb) fun σ H Q ⟨G, P, r, y, r', st, e, k⟩ => ?_
  simp only [ev] at e
  obtain ⟨x1, r1, h1, e⟩ := R.look_ok e
  refine tE_look true st h1 fun v1 G1 H1 P1 st1 s1 u1 p1 => ?_
  have u := u1 _ _ _ (Stp.refl ..) st1.gh fun _ => Same.refl _
  split at e
  · rename_i hx
    rw [hx] at u
    cases u.bli
    refine ⟨true, rfl, ?_⟩
    show tE C eb σ H1 Q
    exact ⟨G1, P1, _, y, r', st1, e, k.step s1 (fun h => p1 (andT h).1) fun h => (andT h).2⟩
  · rename_i hx
    rw [hx] at u
    cases u.bli
    cases e
    refine ⟨false, rfl, ?_⟩
    show Q (.bl false) H1
    exact k.fr st1 s1 (fun h => p1 (andT h).1) .bl
  · cases e
theorem ge_or (ha : PE X a (tE C ea)) (hb : PE X (.BoolOp .Or (b :: rest) pos) (tE C eb)) : PE X (.BoolOp .Or (a :: b :: rest) pos) (tE C (.or ea eb)) := by
  refine PE.imp (pe_or ha hb) fun σ H Q ⟨G, P, r, y, r', st, e, k⟩ => ?_
  simp only [ev] at e
  obtain ⟨x1, r1, h1, e⟩ := R.look_ok e
  refine tE_look true st h1 fun v1 G1 H1 P1 st1 s1 u1 p1 => ?_
  have u := u1 _ _ _ (Stp.refl ..) st1.gh fun _ => Same.refl _
  split at e
  · rename_i hx
    rw [hx] at u
    cases u.bli
    refine ⟨false, rfl, ?_⟩
    show tE C eb σ H1 Q
    exact ⟨G1, P1, _, y, r', st1, e, k.step s1 (fun h => p1 (andT h).1) fun h => (andT h).2⟩
  · rename_i hx
    rw [hx] at u
    cases u.bli
    cases e
    refine ⟨true, rfl, ?_⟩
    show Q (.bl true) H1
    exact k.fr st1 s1 (fun h => p1 (andT h).1) .bl
  · cases e
/-- truth of what is looked at -/
theorem truV_of {K : PySem.W.Frag} {H : Hp} {d : D} {v : V} {k : Bool} (rp : Rep C H d v) (h : truD d = some k) : TruV K v H k := by
  cases rp with
  | non => cases h; rfl
  | bl => cases h; rfl
  | int => cases h; rfl
  | lst hp r =>
    cases h
    refine .inl ⟨_, SqL.of hp, ?_⟩
    cases r <;> rfl
  | _ => cases h
theorem isTrue_pl (h : isTest a = false) : ∀ whole, isTrue a X.env whole = (do let v ← whole; standAt a.pos; holding [v] (truthy v)) := by
  intro whole
  cases a with
  | UnaryOp op _ _ => cases op <;> first | rfl | (simp [isTest] at h)
  | BoolOp => simp [isTest] at h
  | IfExp => simp [isTest] at h
  | Compare => simp [isTest] at h
  | _ => rfl
theorem tru_read {K : PySem.W.Frag} {σ : St} {H : Hp} {Q : Bool → Hp → Prop} (q : tT C ea σ H Q) : tE C ea σ H fun x H' => ∃ k, TruV K x H' k ∧ Q k H' := by
  obtain ⟨G, P, r, y, r', st, e, k⟩ := q
  obtain ⟨x, r1, h1, h2, rfl⟩ := R.tru_ok e
  exact tE_look true st h1 fun v1 G1 H1 P1 st1 s1 u1 p1 => ⟨y, truV_of (u1 _ _ _ (Stp.refl ..) st1.gh fun _ => Same.refl _) h2, k G1 H1 P1 st1 s1 p1⟩
theorem gt_val (ha : PE X a (tE C ea)) (h : isTest a = false) : PT X a (tT C ea) :=
  PT.imp (pt_truth ha (isTrue_pl h)) fun σ H Q q => tru_read q
theorem bl_read {σ : St} {H : Hp} {Q : Bool → Hp → Prop} (hb : ∀ r x r', ev ea r = .ok x r' → ∃ k, x = .v (.fr (.bl k))) (q : tT C ea σ H Q) : tE C ea σ H fun x H' => ∃ k, x = .bl k ∧ Q k H' := by
  obtain ⟨G, P, r, y, r', st, e, k⟩ := q
  obtain ⟨x, r1, h1, h2, rfl⟩ := R.tru_ok e
  obtain ⟨kk, rfl⟩ := hb _ _ _ h1
  cases h2
  exact tE_look true st h1 fun v1 G1 H1 P1 st1 s1 u1 p1 => ⟨_, (u1 _ _ _ (Stp.refl ..) st1.gh fun _ => Same.refl _).bli, k G1 H1 P1 st1 s1 p1⟩
theorem cmp_bl {o : Cop} {r r' : Env} {x : Val} (e : ev (.cmp o ea eb) r = .ok x r') : ∃ k, x = .v (.fr (.bl k)) := by
  simp only [ev] at e
  obtain ⟨x1, r1, h1, e⟩ := R.look_ok e
  obtain ⟨x2, r2, h2, e⟩ := R.look_ok e
  obtain ⟨t, ht, rfl, rfl⟩ := ofD_ok e
  cases hc : cmpD o x1.toD x2.toD with
  | none => rw [hc] at ht; cases ht
  | some b => rw [hc] at ht; cases ht; exact ⟨b, rfl⟩
theorem chain_bl {o u : Cop} {r r' : Env} {x : Val} (e : ev (.chain o u ea eb ec) r = .ok x r') : ∃ k, x = .v (.fr (.bl k)) := by
  simp only [ev] at e
  obtain ⟨x1, r1, h1, e⟩ := R.look_ok e
  obtain ⟨x2, r2, h2, e⟩ := R.look_ok e
  split at e
  · obtain ⟨x3, r3, h3, e⟩ := R.look_ok e
    obtain ⟨t, ht, rfl, rfl⟩ := ofD_ok e
    cases hc : cmpD u x2.toD x3.toD with
    | none => rw [hc] at ht; cases ht
    | some b => rw [hc] at ht; cases ht; exact ⟨b, rfl⟩
  · cases e; exact ⟨false, rfl⟩
  · cases e
theorem gt_cmp (hu : X.A.units + 64 < cLine ∧ X.K = C.K ∧ X.w = C.w) {o : CmpOp} (ha : PE X a (tE C ea)) (hb : PE X b (tE C eb)) (hm : behindInMarks o b = false) : PT X (.Compare a [o] [b] pos) (tT C (.cmp (cmpOp o) ea eb)) :=
  PT.imp (pt_cmpR (op_cmp (C := C) hu o) ha hb hm) fun σ H Q q => cmp_read (bl_read (fun _ _ _ h => cmp_bl h) q)
theorem gt_chain (hu : X.A.units + 64 < cLine ∧ X.K = C.K ∧ X.w = C.w) {o u : CmpOp} (ha : PE X a (tE C ea)) (hb : PE X b (tE C eb)) (hc : PE X c (tE C ec)) (h1 : isSet b = false) (h2 : isSet c = false) : PT X (.Compare a [o, u] [b, c] pos) (tT C (.chain (cmpOp o) (cmpOp u) ea eb ec)) :=
  PT.imp (pt_chain (op_cmp (C := C) hu o) (op_cmp (C := C) hu u) ha hb hc (marks_no h1 h2)) fun σ H Q q => chain_read (bl_read (fun _ _ _ h => chain_bl h) q)
theorem gt_not (ha : PT X a (tT C ea)) : PT X (.UnaryOp .Not a pos) (tT C (.not ea)) := by
  refine PT.imp (pt_not ha) fun σ H Q ⟨G, P, r, y, r', st, e, k⟩ => ?_
  obtain ⟨x, r1, h1, h2, rfl⟩ := R.tru_ok e
  simp only [ev] at h1
  split at h1
  · rename_i b r2 h3
    cases h1
    cases h2
    exact ⟨G, P, r, b, _, st, h3, fun G' H' P' st' s' p' => k G' H' P' st' s' p'⟩
  · cases h1
theorem ge_not (ha : PE X a (tE C ea)) : PE X (.UnaryOp .Not a pos) (tE C (.not ea)) := by
  refine PE.imp (pe_notT ha) fun σ H Q ⟨G, P, r, y, r', st, e, k⟩ => ?_
  simp only [ev] at e
  split at e
  · rename_i b r2 h3
    cases e
    exact tru_read ⟨G, P, r, b, _, st, h3, fun G' H' P' st' s' p' => k.fr st' s' p' .bl⟩
  · cases e
theorem gw_and1 (ha : PT X a (tT C ea)) : PW X (.BoolOp .And [a] pos) (tT C ea) := pw_and1 ha
theorem gw_or1 (ha : PT X a (tT C ea)) : PW X (.BoolOp .Or [a] pos) (tT C ea) := pw_or1 ha
theorem gw_and (ha : PT X a (tT C ea)) (hb : PW X (.BoolOp .And (b :: rest) pos) (tT C eb)) : PW X (.BoolOp .And (a :: b :: rest) pos) (tT C (.and ea eb)) := by
  refine PW.imp (pw_and ha hb) fun σ H Q ⟨G, P, r, y, r', st, e, k⟩ => ?_
  obtain ⟨x, r1, h1, h2, hr⟩ := R.tru_ok e
  simp only [ev] at h1
  obtain ⟨x1, r2, h3, h1⟩ := R.look_ok h1
  split at h1
  · rename_i hx
    exact ⟨G, P, r, true, lookE true x1 r2, st, by rw [h3]; exact R.tru_of (by rw [hx]; rfl), fun G' H' P' st' s' p' => ⟨G', P', _, y, r', st', by rw [h1, hr]; exact R.tru_of h2, fun G2 H2 P2 st2 s2 p2 => k G2 H2 P2 st2 (s'.trans s2) fun h => (p' (andT h).1).trans (p2 (andT h).2)⟩⟩
  · rename_i hx
    cases h1
    cases h2
    subst hr
    exact ⟨G, P, r, false, lookE true x1 r2, st, by rw [h3]; exact R.tru_of (by rw [hx]; rfl), fun G' H' P' st' s' p' => k G' H' P' st' s' fun h => p' (andT h).1⟩
  · cases h1
theorem gw_or (ha : PT X a (tT C ea)) (hb : PW X (.BoolOp .Or (b :: rest) pos) (tT C eb)) : PW X (.BoolOp .Or (a :: b :: rest) pos) (tT C (.or ea eb)) := by
  refine PW.imp (pw_or ha hb) fun σ H Q ⟨G, P, r, y, r', st, e, k⟩ => ?_
  obtain ⟨x, r1, h1, h2, hr⟩ := R.tru_ok e
  simp only [ev] at h1
  obtain ⟨x1, r2, h3, h1⟩ := R.look_ok h1
  split at h1
  · rename_i hx
    exact ⟨G, P, r, false, lookE true x1 r2, st, by rw [h3]; exact R.tru_of (by rw [hx]; rfl), fun G' H' P' st' s' p' => ⟨G', P', _, y, r', st', by rw [h1, hr]; exact R.tru_of h2, fun G2 H2 P2 st2 s2 p2 => k G2 H2 P2 st2 (s'.trans s2) fun h => (p' (andT h).1).trans (p2 (andT h).2)⟩⟩
  · rename_i hx
    cases h1
    cases h2
    subst hr
    exact ⟨G, P, r, true, lookE true x1 r2, st, by rw [h3]; exact R.tru_of (by rw [hx]; rfl), fun G' H' P' st' s' p' => k G' H' P' st' s' fun h => p' (andT h).1⟩
  · cases h1
theorem ge_ite (hc : PT X c (tT C ec)) (ha : PE X a (tE C ea)) (hb : PE X b (tE C eb)) : PE X (.IfExp c a b pos) (tE C (.ite ec ea eb)) := by
  refine PE.imp (pe_ifExp hc ha hb) fun σ H Q ⟨G, P, r, y, r', st, e, k⟩ => ?_
  simp only [ev] at e
  split at e
  · rename_i r1 h1
    exact ⟨G, P, r, true, r1, st, h1, fun G1 H1 P1 st1 s1 p1 => ⟨G1, P1, r1, y, r', st1, e, k.step s1 (fun h => p1 (andT h).1) fun h => (andT (andT h).2).1⟩⟩
  · rename_i r1 h1
    exact ⟨G, P, r, false, r1, st, h1, fun G1 H1 P1 st1 s1 p1 => ⟨G1, P1, r1, y, r', st1, e, k.step s1 (fun h => p1 (andT h).1) fun h => (andT (andT h).2).2⟩⟩
  · cases e

/-! ### argument lists, displays, slices -/
variable {e : Expr} {es : List Expr} {ee : E} {ees : Es}
theorem star_cons (h : notStar e = true) : starEach (e :: es) X.env = (false, eval e X.env) :: starEach es X.env := by
  cases e <;> first | rfl | (simp [notStar] at h)
theorem ga_nil : PA X [] (tEs C .nil) := by
  refine PA.imp pa_nil fun σ H Q ⟨G, P, r, ds, r', st, e, k⟩ => ?_
  simp only [evs] at e
  cases e
  exact k [] G H P st (Stp.refl ..) .nil fun _ => Same.refl _
theorem ga_cons (hn : notStar e = true) (he : PE X e (tE C ee)) (hs : PA X es (tEs C ees)) : PA X (e :: es) (tEs C (.cons ee ees)) := by
  refine PA.imp (pa_cons he hs (star_cons hn)) fun σ H Q ⟨G, P, r, ds, r', st, e, k⟩ => ?_
  simp only [evs] at e
  split at e
  · rename_i x r1 h1
    split at e
    · rename_i ds2 r2 h2
      cases e
      exact tE_settle st h1 fun v1 G1 P1 H1 st1 s1 rp p1 => ⟨G1, P1, _, ds2, _, st1, h2, fun vs G2 H2 P2 st2 s2 rs p2 => k (v1 :: vs) G2 H2 P2 st2 (s1.trans s2) (.cons (Rep.mono s2.gg rp) rs) fun h => (p1 (andT h).1).trans (p2 (andT h).2)⟩
    · cases e
  · cases e
theorem gu_nil : PA X [] (tEu C .nil) := by
  refine PA.imp pa_nil fun σ H Q ⟨G, P, r, ds, r', st, e, k⟩ => ?_
  simp only [evu] at e
  cases e
  exact k [] G H P st (Stp.refl ..) .nil fun _ => Same.refl _
theorem gu_cons (hn : notStar e = true) (he : PE X e (tE C ee)) (hs : PA X es (tEu C ees)) : PA X (e :: es) (tEu C (.cons ee ees)) := by
  refine PA.imp (pa_cons he hs (star_cons hn)) fun σ H Q ⟨G, P, r, ds, r', st, e, k⟩ => ?_
  simp only [evu] at e
  split at e
  · rename_i x r1 h1
    split at e
    · rename_i ds2 r2 h2
      cases e
      exact tE_use ees.pu st h1 fun v1 G1 H1 P1 st1 s1 u1 p1 => ⟨G1, P1, _, ds2, _, st1, h2, fun vs G2 H2 P2 st2 s2 rs p2 => k (v1 :: vs) G2 H2 P2 st2 (s1.trans s2) (.cons (u1 _ _ _ s2 p2) rs) fun h => (p1 (andT h).1).trans (p2 (andT h).2)⟩
    · cases e
  · cases e
theorem ge_tup {k : Nat} (hs : PA X es (tEs C ees)) : PE X (.Tuple es k pos) (tE C (.tup ees)) := by
  refine PE.imp (pe_tup hs) fun σ H Q ⟨G, P, r, y, r', st, e, k⟩ => ?_
  simp only [ev] at e
  split at e
  · rename_i ds r1 h1
    split at e
    · rename_i hl
      cases e
      exact ⟨G, P, r, ds, _, st, h1, fun vs G1 H1 P1 st1 s1 rs p1 => ⟨by rw [← Reps.length rs]; exact hl, fun p hp => (k.alc st1 s1 p1).tup st1.gh hp rs⟩⟩
    · cases e
  · cases e
theorem ge_lst (hs : PA X es (tEs C ees)) : PE X (.List es pos) (tE C (.lst ees)) := by
  refine PE.imp (pe_lst hs) fun σ H Q ⟨G, P, r, y, r', st, e, k⟩ => ?_
  simp only [ev] at e
  split at e
  · rename_i ds r1 h1
    split at e
    · rename_i hl
      cases e
      exact ⟨G, P, r, ds, _, st, h1, fun vs G1 H1 P1 st1 s1 rs p1 => ⟨by rw [← Reps.length rs]; exact hl, fun p hp => (k.alc st1 s1 p1).own st1.gh hp (.lst rs)⟩⟩
    · cases e
  · cases e
theorem ge_dnew (t : Bool) : PE X (.Dict [] [] pos) (tE C (.dnew t)) := by
  cases t with
  | false =>
    refine PE.imp pe_dnewK fun σ H Q ⟨G, P, r, y, r', st, e, k⟩ => ?_
    simp only [ev] at e
    cases e
    exact fun p hp => (k.alc st (Stp.refl ..) fun _ => Same.refl _).own st.gh hp (.dK (ks := []) rfl .nil)
  | true =>
    refine PE.imp pe_dnewT fun σ H Q ⟨G, P, r, y, r', st, e, k⟩ => ?_
    simp only [ev] at e
    cases e
    exact fun p hp => (k.alc st (Stp.refl ..) fun _ => Same.refl _).own st.gh hp (.dT (ks := []) rfl .nil)
theorem go_no : PO X none (tO C .no) := by
  refine PO.imp po_none fun σ H Q ⟨G, P, r, o, r', st, e, k⟩ => ?_
  simp only [evo] at e
  cases e
  exact k G H P st (Stp.refl ..) fun _ => Same.refl _
theorem go_so (he : PE X e (tE C ee)) : PO X (some e) (tO C (.so ee)) := by
  refine PO.imp (po_some he) fun σ H Q ⟨G, P, r, o, r', st, e, k⟩ => ?_
  simp only [evo] at e
  split at e
  · rename_i x r1 h1
    split at e
    · rename_i i hi
      cases e
      refine tE_look true st h1 fun v1 G1 H1 P1 st1 s1 u1 p1 => ?_
      have u := u1 _ _ _ (Stp.refl ..) st1.gh fun _ => Same.refl _
      rw [hi] at u
      exact ⟨i, u.inti, k G1 H1 P1 st1 s1 p1⟩
    · cases e
  · cases e
theorem ge_sli (hK : X.K = C.K) {lo hi : Option Expr} {olo ohi : Oe} {p2 : Pos} (ha : PE X a (tE C ea)) (hl : PO X lo (tO C olo)) (hh : PO X hi (tO C ohi)) : PE X (.Subscript a (.Slice lo hi none p2) pos) (tE C (.sli ea olo ohi)) := by
  refine PE.imp (pe_slice (sl_any hK) ha hl hh) fun σ H Q ⟨G, P, r, y, r', st, e, k⟩ => ?_
  simp only [ev] at e
  obtain ⟨x1, r1, h1, e⟩ := R.use_ok e
  split at e
  · rename_i l r2 h2
    split at e
    · rename_i h r3 h3
      obtain ⟨t, ht, rfl, rfl⟩ := ofT_ok e
      exact tE_use (olo.pu && ohi.pu) st h1 fun v1 G1 H1 P1 st1 s1 u1 p1 => ⟨G1, P1, _, l, r2, st1, h2, fun G2 H2 P2 st2 s2 p2 => ⟨G2, P2, r2, h, _, st2, h3, fun G3 H3 P3 st3 s3 p3 =>
        ⟨G3, _, t, st3.gh, u1 _ _ _ (s2.trans s3) fun h => (p2 (andT h).1).trans (p3 (andT h).2), ht, k.alc st3 ((s1.trans s2).trans s3) fun h => ((p1 (andT h).1).trans (p2 (andT (andT h).2).1)).trans (p3 (andT (andT h).2).2)⟩⟩⟩
    · cases e
  · cases e
end
end FJ

/-! Items, isinstance, built-in functions, targets, what is walked. -/
namespace FJ
open PySem L2

section
variable {X : Cx} {C : Ct} {G H : Hp} {a b c : Expr} {ea eb ec : E} {pos p : Pos} {v : V}
theorem look2_get {κ : Type} [DecidableEq κ] {k : κ} {d : D} : ∀ {ks : List κ} {ds : List D} {vs : List V}, look2 k ks ds = some d → Reps C G ds vs → ∃ v, valV (ks.zip vs) k = some v ∧ Rep C G d v
  | [], _, _, h, _ => by simp [look2] at h
  | _ :: _, _, _, h, .nil => by simp [look2] at h
  | q :: ks, d1 :: ds, v1 :: vs, h, .cons r1 r2 => by
    simp only [look2] at h
    unfold valV
    rw [List.zip_cons_cons, List.find?_cons]
    by_cases e : q = k
    · rw [if_pos e] at h
      cases h
      simp only [e, decide_true]
      exact ⟨v1, rfl, r1⟩
    · rw [if_neg e] at h
      simp only [e, decide_false]
      exact look2_get h r2
theorem key_of {d : D} {k : Key} (h : keyOf d = some k) (r : Rep C G d v) : v = kV k := by
  cases d with
  | int i => cases h; cases r; rfl
  | str i => cases h; cases r; rfl
  | _ => cases h
theorem keys_of : ∀ {ds : List D} {vs : List V} {ks : List Key}, keysOf ds = some ks → Reps C G ds vs → vs = ks.map kV
  | [], _, _, h, .nil => by cases h; rfl
  | d :: ds, _, ks, h, .cons r1 r2 => by
    simp only [keysOf] at h
    split at h
    · rename_i k ks1 h1 h2
      cases h
      rw [key_of h1 r1, keys_of h2 r2]; rfl
    · cases h
theorem at_get {α β : Type} {xs : List α} {ys : List β} {i : Int} {x : α} (hl : xs.length = ys.length) (h : atI xs i = some x) : ∃ j : Nat, xs[j]? = some x ∧ ∀ y, ys[j]? = some y → atI ys i = some y := by
  unfold atI at h ⊢
  rw [← hl]
  cases hj : ixN xs.length i with
  | none => rw [hj] at h; cases h
  | some j => rw [hj] at h; exact ⟨j, h, fun y hy => hy⟩
theorem reps_at {ds : List D} {vs : List V} {i : Int} {d : D} (r : Reps C G ds vs) (h : atI ds i = some d) : ∃ v, atI vs i = some v ∧ Rep C G d v := by
  obtain ⟨j, h1, h2⟩ := at_get (Reps.length r) h
  obtain ⟨v, h3, h4⟩ := Reps.get r h1
  exact ⟨v, h2 v h3, h4⟩
theorem plainIx (h : isSlice b = false) : PlainIx b := by
  intro o i
  cases b <;> first | rfl | (simp [isSlice] at h)
theorem noSl (h : isSlice b = false) : NoSl b := by
  intro o i
  cases b <;> first | rfl | (simp [isSlice] at h)
theorem idx_vals {σ : St} {H : Hp} {Q : VK} (q : tE C (.idx ea eb) σ H Q) : tE C ea σ H fun x H1 => tE C eb σ H1 fun y H2 => ∃ G a b d, Same G H2 ∧ Us C G H2 a x ∧ Us C G H2 b y ∧ idxD a b = some d ∧ ∀ v, Rep C G d v → Q v H2 := by
  obtain ⟨G, P, r, y, r', st, e, k⟩ := q
  simp only [ev] at e
  obtain ⟨x1, r1, h1, e⟩ := R.use_ok e
  obtain ⟨x2, r2, h2, e⟩ := R.use_ok e
  obtain ⟨d, hd, rfl, rfl⟩ := ofD_ok e
  refine tE_use eb.pu st h1 fun v1 G1 H1 P1 st1 s1 u1 p1 => ?_
  refine tE_use true st1 h2 fun v2 G2 H2 P2 st2 s2 u2 p2 => ?_
  exact ⟨G2, _, _, d, st2.gh, u1 _ _ _ s2 p2, u2 _ _ _ (Stp.refl ..) fun _ => Same.refl _, hd, fun v rv => k.fr st2 (s1.trans s2) (fun h => (p1 (andT h).1).trans (p2 (andT h).2)) rv⟩
theorem tE_mono {e : E} {σ : St} {H : Hp} {Q Q' : VK} (q : tE C e σ H Q) (k : ∀ v H, Q v H → Q' v H) : tE C e σ H Q' := by
  obtain ⟨G, P, r, y, r', st, e, h⟩ := q
  exact ⟨G, P, r, y, r', st, e, fun v G' H' P' A a b c d e => k _ _ (h v G' H' P' A a b c d e)⟩
/-- how it is subscripted -/
def srtD : D → Nat
  | .dK _ _ => 1 | .dT _ _ => 1 | .tab _ _ _ => 2 | _ => 0
def rIdx (C : Ct) (n : Nat) : R2 := fun x y H2 Q => ∃ G a b d, Same G H2 ∧ Us C G H2 a x ∧ Us C G H2 b y ∧ idxD a b = some d ∧ (∀ v, Rep C G d v → Q v H2) ∧ srtD a = n
theorem ix_seqD (hK : X.K = C.K) : IxR X (rIdx C 0) := by
  intro value slice pins s σ H x y v u Q I rx ry ⟨G, a, b, d, gh, ux, uy, e, k, hd⟩ hs
  cases a with
  | scr ns =>
    cases b with
    | int j =>
      cases uy.int
      obtain ⟨p, rfl, h⟩ := ux.scr gh
      rw [← hK] at h
      cases hn : atI ns j with
      | none => simp [idxD, at_, hn] at e
      | some n =>
        simp only [idxD, at_, hn] at e
        cases e
        obtain ⟨i, h1, h2⟩ := at_get (ys := ns.map V.int) (by rw [List.length_map]) hn
        refine ix_list value slice pins s σ H _ _ v u Q I rx ry ⟨p, _, j, .int n, rfl, rfl, h, h2 _ (by rw [List.getElem?_map, h1]; rfl), k _ .int⟩ hs
    | _ => cases e
  | lst ds =>
    cases b with
    | int j =>
      cases uy.int
      obtain ⟨p, vs, rfl, h, r⟩ := ux.lst gh
      obtain ⟨w, h1, h2⟩ := reps_at r e
      exact ix_list value slice pins s σ H _ _ v u Q I rx ry ⟨p, _, j, w, rfl, rfl, SqL.of h, h1, k _ h2⟩ hs
    | _ => cases e
  | tup ds =>
    cases b with
    | int j =>
      cases uy.int
      obtain ⟨p, vs, rfl, h, g, r⟩ := ux.tup gh
      obtain ⟨w, h1, h2⟩ := reps_at r e
      exact ix_tup value slice pins s σ H _ _ v u Q I rx ry ⟨p, _, j, w, rfl, rfl, SqT.of h, h1, k _ h2⟩ hs
    | _ => cases e
  | str z =>
    cases b with
    | int j =>
      cases ux.str; cases uy.int
      simp only [idxD] at e
      split at e
      · rename_i hz
        split at e
        · rename_i c hc
          cases e
          exact ix_str value slice pins s σ H _ _ v u Q I rx ry ⟨z, j, c, rfl, rfl, hz, hc, k _ .str⟩ hs
        · cases e
      · cases e
    | _ => cases e
  | dK _ _ => cases hd
  | dT _ _ => cases hd
  | tab _ _ _ => cases hd
  | _ => cases e
theorem look2_at {k : Str} {d : D} {vs : List V} {Pr : Str → V → Prop} : ∀ {ks : List Str} {ds : List D}, look2 k ks ds = some d → (∀ (i : Nat) (k : Str), ks[i]? = some k → ∃ v, vs[i]? = some v ∧ Pr k v) → Reps C G ds vs → ∃ v, Pr k v ∧ Rep C G d v := by
  intro ks ds h hp r
  have : ∃ i : Nat, ks[i]? = some k ∧ ds[i]? = some d := by
    clear hp r
    induction ks generalizing ds with
    | nil => simp [look2] at h
    | cons q ks ih =>
      cases ds with
      | nil => simp [look2] at h
      | cons d1 ds =>
        simp only [look2] at h
        by_cases e : q = k
        · rw [if_pos e] at h
          cases h
          exact ⟨0, by simp [e], rfl⟩
        · rw [if_neg e] at h
          obtain ⟨i, h1, h2⟩ := ih h
          exact ⟨i + 1, by simpa using h1, by simpa using h2⟩
  obtain ⟨i, h1, h2⟩ := this
  obtain ⟨v, h3, h4⟩ := hp i k h1
  obtain ⟨u, h5, h6⟩ := Reps.get r h2
  rw [h3] at h5
  cases h5
  exact ⟨v, h4, h6⟩
theorem Us.tab {ks ms : List Str} {ds : List D} {v : V} (u : Us C G H (.tab ks ds ms) v) (g : Same G H) : ∃ p vs, v = .ref p ∧ (p == sysModules) = false ∧ (∀ (i : Nat) (k : Str), ks[i]? = some k → ∃ v, vs[i]? = some v ∧ KDct C.K C.w p k v) ∧ (∀ m ∈ ms, KMiss C.K C.w p m) ∧ Reps C G ds vs := by
  rcases u with u | ⟨p, o, rfl, h, f⟩
  · cases u with
    | tab z a b c d => exact ⟨_, _, rfl, a, b, c, d⟩
  · cases f
theorem ge_idx (hK : X.K = C.K) (hw : X.w = C.w) (hu : X.A.units + 64 < cLine) (ha : PE X a (tE C ea)) (hb : PE X b (tE C eb)) (hs : isSlice b = false) : PE X (.Subscript a b pos) (tE C (.idx ea eb)) := by
  refine PE.imp (FJ.PE.or' (pe_ix (ix_seqD hK) ha hb (plainIx hs)) (FJ.PE.or' (pe_dget (by omega) ha hb (noSl hs)) (pe_ix ix_kdict ha hb (plainIx hs)))) fun σ H Q q => ?_
  have q' := q
  obtain ⟨G, P, r, y, r', st, e, k⟩ := q'
  simp only [ev] at e
  obtain ⟨x1, r1, h1, e⟩ := R.use_ok e
  obtain ⟨x2, r2, h2, e⟩ := R.use_ok e
  obtain ⟨d, hd, rfl, rfl⟩ := ofD_ok e
  have main : ∀ (K : V → V → Hp → Prop), (∀ G v1 v2 H2, Same G H2 → Us C G H2 x1.toD v1 → Us C G H2 x2.toD v2 → (∀ v, Rep C G d v → Q v H2) → K v1 v2 H2) → tE C ea σ H fun x H1 => tE C eb σ H1 fun y H2 => K x y H2 := fun K hK => by
    refine tE_use eb.pu st h1 fun v1 G1 H1 P1 st1 s1 u1 p1 => ?_
    refine tE_use true st1 h2 fun v2 G2 H2 P2 st2 s2 u2 p2 => ?_
    exact hK G2 v1 v2 H2 st2.gh (u1 _ _ _ s2 p2) (u2 _ _ _ (Stp.refl ..) fun _ => Same.refl _) fun v rv => k.fr st2 (s1.trans s2) (fun h => (p1 (andT h).1).trans (p2 (andT h).2)) rv
  generalize hx : x1.toD = dx at *
  generalize hy : x2.toD = dy at *
  cases dx with
  | dK ks ds =>
    refine .inr (.inl (main _ fun G v1 v2 H2 gh ux uy kk => ?_))
    obtain ⟨p, vs, rfl, h, l, rs⟩ := ux.dK gh
    simp only [idxD] at hd
    split at hd
    · rename_i kk2 hk
      obtain ⟨w, hw, rw'⟩ := look2_get hd rs
      have e2 := key_of hk (Us.rep gh uy)
      exact ⟨p, w, rfl, .inl ⟨_, kk2, .inl h, e2, hw.symm⟩, kk _ rw'⟩
    · cases hd
  | dT ks ds =>
    refine .inr (.inl (main _ fun G v1 v2 H2 gh ux uy kk => ?_))
    obtain ⟨p, vs, rfl, h, l, rs⟩ := ux.dT gh
    cases dy with
    | tup xs =>
      simp only [idxD] at hd
      split at hd
      · rename_i kk2 hk
        obtain ⟨w, hw, rw'⟩ := look2_get hd rs
        obtain ⟨q, ws, rfl, hq, gq, rq⟩ := uy.tup gh
        rw [keys_of hk rq] at hq
        exact ⟨p, w, rfl, .inr ⟨_, kk2, q, .inl h, rfl, hq, hw.symm⟩, kk _ rw'⟩
      · cases hd
    | _ => cases hd
  | tab ks ds ms =>
    refine .inr (.inr (main _ fun G v1 v2 H2 gh ux uy kk => ?_))
    cases dy with
    | str z =>
      obtain ⟨p, vs, rfl, low, h1, h2, rs⟩ := ux.tab gh
      cases uy.str
      obtain ⟨v, h3, h4⟩ := look2_at (by simpa only [idxD] using hd) h1 rs
      exact ⟨p, z, v, rfl, rfl, by rw [hK, hw]; exact h3, kk _ h4⟩
    | _ => cases hd
  | _ => exact .inl (main _ fun G v1 v2 H2 gh ux uy kk => ⟨G, _, _, d, gh, ux, uy, hd, kk, rfl⟩)

/-! ### isinstance -/
def tyName : Ty → String
  | .int => "int" | .str => "str" | .bool => "bool" | .list => "list" | .tuple => "tuple" | .dict => "dict" | .cls _ _ => "?"
def nameD : D → String
  | .non => "NoneType" | .bl _ => "bool" | .int _ => "int" | .str _ => "str" | .tup _ => "tuple" | .lst _ => "list" | .scr _ => "list" | .dK _ _ => "dict" | .dT _ _ => "dict" | .tab _ _ _ => "?" | .obj _ _ => "?"
theorem ty_rep {K : PySem.W.Frag} (hK : K = C.K) {d : D} (r : Rep C H d v) (h : (∀ c fs, d ≠ .obj c fs) ∧ ∀ a b c, d ≠ .tab a b c) : TyX K H v (.type (nameD d)) := by
  cases r with
  | non => exact .base .non
  | bl => exact .base (.bl _)
  | int => exact .base (.int _)
  | str => exact .base (.str _)
  | tup h1 _ => exact .base (.tup h1)
  | lst h1 _ => exact .base (.lst h1)
  | dK h1 _ _ => exact .base (.dK h1)
  | dT h1 _ _ => exact .base (.dT h1)
  | scr hs =>
    rcases hs with (h1 | ⟨o, h1⟩) | ⟨o, its, n, hk, hc, _⟩
    · exact .base (.lst h1)
    · exact .base (.frz h1)
    · exact .kList (by rw [hK]; exact hk) hc
  | obj _ _ => exact (h.1 _ _ rfl).elim
  | tab _ _ _ _ _ => exact (h.2 _ _ _ rfl).elim
theorem kit_all : ([("NoneType", false, false, false, false, false, false), ("bool", true, false, true, false, false, false), ("int", true, false, false, false, false, false), ("str", false, true, false, false, false, false), ("tuple", false, false, false, false, true, false), ("list", false, false, false, true, false, false), ("dict", false, false, false, false, false, true)].all fun (n, a, b, c, d, e, f) =>
    (kitB n "int" == some a) && (kitB n "str" == some b) && (kitB n "bool" == some c) && (kitB n "list" == some d) && (kitB n "tuple" == some e) && (kitB n "dict" == some f)) = true := by decide +kernel
theorem kit_isD {t : Ty} {d : D} {k : Bool} (h : isD t d = some k) (ht : ∀ c s, t ≠ .cls c s) : ((∀ c fs, d ≠ .obj c fs) ∧ ∀ a b c, d ≠ .tab a b c) ∧ kitB (nameD d) (tyName t) = some k := by
  have K := kit_all
  simp only [List.all_cons, List.all_nil, Bool.and_eq_true, beq_iff_eq, Bool.and_true] at K
  obtain ⟨⟨⟨⟨⟨⟨n1, n2⟩, n3⟩, n4⟩, n5⟩, n6⟩, ⟨⟨⟨⟨⟨b1, b2⟩, b3⟩, b4⟩, b5⟩, b6⟩, ⟨⟨⟨⟨⟨i1, i2⟩, i3⟩, i4⟩, i5⟩, i6⟩, ⟨⟨⟨⟨⟨s1, s2⟩, s3⟩, s4⟩, s5⟩, s6⟩, ⟨⟨⟨⟨⟨t1, t2⟩, t3⟩, t4⟩, t5⟩, t6⟩, ⟨⟨⟨⟨⟨l1, l2⟩, l3⟩, l4⟩, l5⟩, l6⟩, ⟨⟨⟨⟨d1, d2⟩, d3⟩, d4⟩, d5⟩, d6⟩ := K
  cases t with
  | cls c s => exact (ht _ _ rfl).elim
  | _ => cases d <;> first | (cases h; done) | (cases h; exact ⟨⟨fun _ _ z => (by cases z), fun _ _ _ z => (by cases z)⟩, by assumption⟩)
def bTy : Ty → Str
  | .int => "int" | .str => "str" | .bool => "bool" | .list => "list" | .tuple => "tuple" | .dict => "dict" | .cls _ _ => "?"
theorem boot_ty {t : Ty} (ht : ∀ c s, t ≠ .cls c s) : bootBuiltins (bTy t) = some (.type (tyName t)) := by
  cases t with
  | int => exact PyProof.Rows.boot_int
  | str => exact PyProof.Rows.boot_str
  | bool => exact PyProof.Rows.boot_bool
  | list => exact PyProof.Rows.boot_list
  | tuple => exact PyProof.Rows.boot_tuple
  | dict => exact PyProof.Rows.boot_dict
  | cls => exact (ht _ _ rfl).elim
theorem ge_isi (hK : X.K = C.K) {t : Ty} {np : Pos} (ht : ∀ c s, t ≠ .cls c s) (hg : Gl X "isinstance") (hm : X.mg "isinstance" = none) (hg2 : Gl X (bTy t)) (hm2 : X.mg (bTy t) = none) (hn : notStar a = true) (ha : PE X a (tE C ea)) :
    PE X (.Call (.Name "isinstance" p) [a, .Name (bTy t) np] [] pos) (tE C (.isi ea t)) := by
  have hb : PE X (.Name (bTy t) np) (tC (.ty (tyName t))) := pe_bltn hg2 hm2 (boot_ty ht) rfl (by cases t <;> first | decide | exact absurd rfl (ht _ _)) (by cases t <;> first | decide | exact absurd rfl (ht _ _))
  refine PE.imp (pe_callB call_isi hg hm PyProof.Rows.boot_isinstance (pa_cons ha (pa_cons hb pa_nil rfl) (star_cons hn)) (by decide) (by decide) (star_cons hn) rfl) fun σ H Q ⟨G, P, r, y, r', st, e, k⟩ => ?_
  simp only [ev] at e
  obtain ⟨x1, r1, h1, e⟩ := R.look_ok e
  obtain ⟨d, hd, rfl, rfl⟩ := ofD_ok e
  cases hi : isD t x1.toD with
  | none => rw [hi] at hd; cases hd
  | some bb =>
    rw [hi] at hd
    cases hd
    obtain ⟨n1, n2⟩ := kit_isD hi ht
    refine tE_look true st h1 fun v1 G1 H1 P1 st1 s1 u1 p1 => ?_
    exact ⟨v1, .ty (tyName t), _, _, bb, rfl, .ty _, ty_rep hK (u1 _ _ _ (Stp.refl ..) st1.gh fun _ => Same.refl _) n1, kit_ty n2, k.fr st1 s1 p1 .bl⟩

/-! ### built-in functions -/
variable {e : Expr} {es : List Expr} {ees : Es}
theorem star_no : ∀ {es : List Expr}, noStars es = true → ∀ {env : PySem.Env} {pos : Pos}, (backTo pos (starEach es env)).any (·.1) = false := by
  intro es
  induction es with
  | nil => intro _ env pos; rfl
  | cons e es ih =>
    intro h env pos
    simp only [noStars, List.all_cons, Bool.and_eq_true] at h
    have hs : starEach (e :: es) env = (false, eval e env) :: starEach es env := by
      cases e <;> first | rfl | (simp [notStar] at h)
    rw [hs]
    have := ih (by unfold noStars; exact h.2) (env := env) (pos := pos)
    unfold backTo at this ⊢
    rw [List.map_cons, List.any_cons]
    simpa using this
def bBi (f : BI) : Str := ⟨((idB f).toList.map Char.toNat).toArray⟩
theorem ge_bi (hK : X.K = C.K) (hc : X.calm = true) {f : BI} {x : Str} (hf : f = .len ∨ f = .sum ∨ f = .all ∨ f = .any ∨ f = .max ∨ f = .min ∨ f = .divmod) (hb : bootBuiltins x = some (.builtin (idB f))) (hx : x ≠ "__name__") (hdb : (x == ("__debug__" : Str)) = false)
    (hg : Gl X x) (hm : X.mg x = none) (hn : notStar e = true) (hns : noStars es = true) (ha : PA X (e :: es) (tEu C ees)) : PE X (.Call (.Name x p) (e :: es) [] pos) (tE C (.bi f ees)) := by
  refine PE.imp (pe_callB (call_bi hK hc hf) hg hm hb ha hx hdb (star_cons hn) (star_no hns)) fun σ H Q ⟨G, P, r, y, r', st, e, k⟩ => ?_
  simp only [ev] at e
  split at e
  · rename_i ds r1 h1
    obtain ⟨t, ht, rfl, rfl⟩ := ofT_ok e
    exact ⟨G, P, r, ds, _, st, h1, fun vs G1 H1 P1 st1 s1 rs p1 => ⟨G1, ds, t, st1.gh, rs, ht, k.alc st1 s1 p1⟩⟩
  · cases e
theorem ge_bt (hc : X.calm = true) {f : BI} {x : Str} (hf : f = .list ∨ f = .tuple ∨ f = .int) (hb : bootBuiltins x = some (.type (idT f))) (hx : x ≠ "__name__") (hdb : (x == ("__debug__" : Str)) = false)
    (hg : Gl X x) (hm : X.mg x = none) (hn : notStar e = true) (hns : noStars es = true) (ha : PA X (e :: es) (tEu C ees)) : PE X (.Call (.Name x p) (e :: es) [] pos) (tE C (.bi f ees)) := by
  refine PE.imp (pe_callTy (call_bt (C := C) hc hf) hg hm hb ha hx hdb (star_cons hn) (star_no hns)) fun σ H Q ⟨G, P, r, y, r', st, e, k⟩ => ?_
  simp only [ev] at e
  split at e
  · rename_i ds r1 h1
    obtain ⟨t, ht, rfl, rfl⟩ := ofT_ok e
    exact ⟨G, P, r, ds, _, st, h1, fun vs G1 H1 P1 st1 s1 rs p1 => ⟨G1, ds, t, st1.gh, rs, ht, k.alc st1 s1 p1⟩⟩
  · cases e
theorem base_ok {env : PySem.Env} {m : Str} (h : baseOk a = true) : attributeBase a m env (eval a env) = eval a env := by
  unfold attributeBase
  split
  · rename_i id _ pos
    simp only [baseOk, decide_eq_true_eq, ne_eq] at h
    have h1 : (id != ("super" : Str)) = true := by simpa using h
    simp [h1]
  · rfl
theorem ge_upper {apos : Pos} (hb : baseOk a = true) (hl : (apos.endLine == pos.line) = true) (ha : PE X a (tE C ea)) : PE X (.Call (.Attribute a "upper" apos) [] [] pos) (tE C (.mt .upper ea .nil)) := by
  refine PE.imp (pe_upper ha (base_ok hb) hl) fun σ H Q ⟨G, P, r, y, r', st, e, k⟩ => ?_
  simp only [ev, evu] at e
  obtain ⟨x1, r1, h1, e⟩ := R.use_ok e
  obtain ⟨t, ht, rfl, rfl⟩ := ofT_ok e
  refine tE_use true st h1 fun v1 G1 H1 P1 st1 s1 u1 p1 => ?_
  have u := u1 _ _ _ (Stp.refl ..) fun _ => Same.refl _
  cases hx : x1.toD with
  | str z =>
    rw [hx] at u ht
    cases u.str
    simp only [mtD] at ht
    split at ht
    · cases ht
      exact ⟨⟨z, rfl⟩, z, rfl, rfl, by assumption, k.fr st1 s1 (fun h => p1 (andT h).1) .str⟩
    · cases ht
  | _ => rw [hx] at ht; cases ht
end
end FJ

/-! sum(a list of lists, a list). -/
namespace FJ
open PySem L2 PyProof.Rows
/-- i's lists put together -/
def preCat (init : List Value) (ls : Nat → List Value) : Nat → List Value
  | 0 => init
  | i + 1 => preCat init ls i ++ ls i
section
variable {prog : Program} {w : World} {A : Around} {R : Result → Shared → Prop} {I : Addr} {fp wr : List Addr} {n : Nat} {P : Nat → Value → Prop} {St : Nat → Heap → Prop}
theorem sum_lists_loop (W : Walks prog w A.in1 I fp wr n P St) (init : List Value) (ls : Nat → List Value) (S : Addr) (hSf : S ∉ fp) (hfS : ∀ b ∈ fp, b < S) (h0 : Heap) (h0S : h0.objs.size ≤ S)
    (hP : ∀ i v, P i v → ∃ a, v = .ref a ∧ h0.IsList a (ls i).toArray ∧ a ∉ wr ∧ a ≠ S) (hsz : ∀ i, i ≤ n → (preCat init ls i).length ≤ sizeLine) :
    ∀ (k i : Nat) (s : Shared) (T : Addr) (c : Nat), n - i = k → i ≤ n → St i s.heap → (∀ b o, b ∉ wr → b ≠ S → h0.get? b = some o → s.heap.get? b = some o) →
    s.heap.get? S = some { cls := .type "list", dict := none, data := .seq #[.ref T] c, slots := #[] } → s.heap.IsList T (preCat init ls i).toArray → T ∉ wr → T ≠ S → (i = 0 ∨ (h0.objs.size ≤ T ∧ s.heap.get? T = some { cls := .type "list", data := .seq (preCat init ls i).toArray })) →
    (∀ h' tk T', (∀ b o, b ∉ wr → b ≠ S → h0.get? b = some o → h'.get? b = some o) → h'.IsList T' (preCat init ls n).toArray → T' ∉ wr → T' ≠ S → (n = 0 ∨ (h0.objs.size ≤ T' ∧ h'.get? T' = some { cls := .type "list", data := .seq (preCat init ls n).toArray })) → R (.ok (.ret (.ref T'))) { s with heap := h', toks := tk }) →
    codeAny (model prog w) A (.builtin "sum.loop" ⟨[.ref I, .ref S, rawInt 2, rawInt 0], []⟩) R s := by
  have hSw : S ∉ wr := fun h => hSf (W.sub _ h)
  intro k
  induction k with
  | zero =>
    intro i s T c hk hi hst hkeep hS hT hTw hTS hz0 hR
    have hin : i = n := by omega
    subst hin
    refine codeAny_builtin F.entry_sum_loop ?_
    rw [Around.under_plainId F.plain_sum_loop _]
    show wpAny _ A.in1 (seqItems? (.ref S) >>= _) _ _ s
    refine wpAny_bind (wpAny_seqItems hS rfl ?_)
    show wpAny _ A.in1 (tryCatch (pyNext (.ref I)) _ >>= _) _ _ s
    refine wpAny_bind (wpAny_tryCatch (W.done s _ _ hst fun h' tk hk' => ?_))
    exact wpAny_pure (hR h' tk T (fun b o hbw hbS e => hk' b o hbw (hkeep b o hbw hbS e)) (hT.at fun o e => hk' T o hTw e) hTw hTS (hz0.imp id fun z => ⟨z.1, hk' T _ hTw z.2⟩))
  | succ k ih =>
    intro i s T c hk hi hst hkeep hS hT hTw hTS hz0 hR
    have hlt : i < n := by omega
    refine codeAny_builtin F.entry_sum_loop ?_
    rw [Around.under_plainId F.plain_sum_loop _]
    show wpAny _ A.in1 (seqItems? (.ref S) >>= _) _ _ s
    refine wpAny_bind (wpAny_seqItems hS rfl ?_)
    show wpAny _ A.in1 (tryCatch (pyNext (.ref I)) _ >>= _) _ _ s
    refine wpAny_bind (wpAny_tryCatch (W.item i s _ _ hlt hst fun v h' tk hPv hst' hk' => ?_))
    obtain ⟨a, rfl, ha, haw, haS⟩ := hP i v hPv
    have hS' := hk' S _ hSw hS
    have hT' : h'.IsList T (preCat init ls i).toArray := hT.at fun o e => hk' T o hTw e
    have ha' : h'.IsList a (ls i).toArray := ha.at fun o e => hk' a o haw (hkeep a o haw haS e)
    show wpAny _ A.in1 ((holding [Value.ref a] (binaryOp .Add (.ref T) (.ref a))).attempt >>= _) _ _ _
    have hz := hsz (i + 1) (by omega)
    simp only [preCat, List.length_append] at hz
    obtain ⟨⟨cls, dd, data, sl⟩, ho, hc, n1, hd⟩ := id hT'
    obtain ⟨⟨cls2, dd2, data2, sl2⟩, ho2, hc2, n2, hd2⟩ := id ha'
    simp only at hc hd hc2 hd2
    subst hc hd hc2 hd2
    have e : (preCat init ls i).toArray ++ (ls i).toArray = (preCat init ls (i + 1)).toArray := by simp [preCat]
    refine wpAny_bind (wpAny_attempt (wpAny_holding (concat_meets ⟨_, ho, rfl⟩ ⟨_, ho2, rfl⟩ noFill_list_add seq_list_add PySem.F.slot_list_add PySem.F.entry_list_add (PySem.F.args_list_add_2 _ _) (list_addW T a (preCat init ls i).toArray (ls i).toArray n1 n2 dd dd2 sl sl2 (by simpa using hz)) ⟨ho, ho2, ?_⟩)))
    rw [e]
    generalize hN : ({ cls := .type "list", data := .seq (preCat init ls (i + 1)).toArray } : Obj) = newO
    have kp : ∀ b o, h'.get? b = some o → (h'.push newO).get? b = some o := fun b o e => Heap.get?_push_of_some _ e
    have hS1 := kp S _ hS'
    show wpAny _ A.in1 (updateSeq S (fun _ => #[.ref h'.objs.size]) >>= _) _ _ _
    refine wpAny_bind ?_
    refine wpAny_updateSeq hS1 rfl ?_
    have hS2 := Heap.get?_update_self (Obj.mapSeq fun _ => #[Value.ref h'.objs.size]) hS1 rfl
    refine wpAny_bind (wpAny_letGo ?_)
    refine wpAny_bind ?_
    have hSlt : S < h'.objs.size := Heap.lt_size hS'
    have hne : S ≠ h'.objs.size := Nat.ne_of_lt hSlt
    refine wpAny_updateSeq hS2 rfl (wpAny_pure ⟨plainId_quiet F.plain_sum_loop _, ih (i + 1) _ h'.objs.size _ (by omega) hlt (W.frame _ _ _ hst' fun b hb o e => ?_) (fun b o hbw hbS e => ?_) (Heap.get?_update_self _ hS2 rfl) ?_ ?_ (Ne.symm hne) (.inr ⟨Nat.le_trans h0S (Nat.le_of_lt hSlt), ?_⟩) fun h'' tk'' T'' hk'' hT'' hw'' hs'' hz'' => hR h'' tk'' T'' hk'' hT'' hw'' hs'' hz''⟩)
    · have hb' : S ≠ b := fun h : S = b => hSf (by rw [h]; exact hb)
      exact (Heap.get?_update_other _ _ hb').trans ((Heap.get?_update_other _ _ hb').trans (kp b o e))
    · exact (Heap.get?_update_other _ _ (Ne.symm hbS)).trans ((Heap.get?_update_other _ _ (Ne.symm hbS)).trans (kp b o (hk' b o hbw (hkeep b o hbw hbS e))))
    · refine ⟨newO, ?_, ?_⟩
      · exact (Heap.get?_update_other _ _ hne).trans ((Heap.get?_update_other _ _ hne).trans (Heap.get?_push_size _ (by rw [← hN]; rfl)))
      · subst hN
        exact ⟨rfl, 0, rfl⟩
    · intro hm
      exact Nat.lt_irrefl _ (Nat.lt_trans (hfS _ (W.sub _ hm)) hSlt)
    · rw [hN]
      exact (Heap.get?_update_other _ _ hne).trans ((Heap.get?_update_other _ _ hne).trans (Heap.get?_push_size _ (by rw [← hN]; rfl)))
end
section
variable {prog : Program} {w : World} {A : Around} {E : Value → Shared → Prop} {s : Shared}
theorem args_sum2 (a b : Value) : argsOk "sum" ⟨[a, b], []⟩ := by unfold argsOk; kernel_rfl
theorem preCat_eq (init : List Value) (lss : List (List Value)) : ∀ i, i ≤ lss.length → preCat init (fun j => lss.getD j []) i = init ++ (lss.take i).flatten
  | 0, _ => by simp [preCat]
  | i + 1, h => by
    have hi : i < lss.length := by omega
    simp only [preCat]
    have ht : lss.take (i + 1) = lss.take i ++ [lss[i]] := by rw [List.take_add_one, List.getElem?_eq_getElem hi]; rfl
    rw [preCat_eq init lss i (by omega), ht, List.getD_eq_getElem?_getD, List.getElem?_eq_getElem hi, List.flatten_append, List.append_assoc]
    congr 2
    simp
theorem sum_lists {l T0 : Addr} {its : List Value} {init : List Value} {lss : List (List Value)} {Q : Value → Shared → Prop} (hh : A.handled = none) (hl : s.heap.IsList l its.toArray) (ht : s.heap.IsList T0 init.toArray)
    (hi : ∀ (i : Nat) (v : Value), its[i]? = some v → ∃ a, v = .ref a ∧ s.heap.IsList a (lss.getD i []).toArray) (hn : its.length = lss.length) (hsz : (init ++ lss.flatten).length ≤ sizeLine)
    (h : ∀ h' tk T', (∀ b o, s.heap.get? b = some o → h'.get? b = some o) → h'.IsList T' (init ++ lss.flatten).toArray → (its = [] ∨ (s.heap.objs.size ≤ T' ∧ h'.get? T' = some { cls := .type "list", data := .seq (init ++ lss.flatten).toArray })) → Q (.ref T') { s with heap := h', toks := tk }) :
    wpAny (model prog w) A (call (.builtin "sum") [.ref l, .ref T0]) Q E s := by
  refine call_function_tree F.kind_sum F.plain_sum F.entry_sum (args_sum2 _ _) ?_
  unfold Builtin.«sum»
  simp only [List.length_cons, List.length_nil]
  rw [if_neg (by decide)]
  refine wpAny_bind (wpAny_of_eq (show Builtin.Builtins.bindParams "sum" ["start"] 0 ⟨[.ref T0], []⟩ = pure [some (.ref T0)] from rfl) ?_)
  have hlt : l < s.heap.objs.size := by obtain ⟨_, e, _⟩ := hl; exact Heap.lt_size e
  refine wpAny_bind (wpAny_pyIter_list hl ?_)
  generalize hs2 : s.heap.push { cls := .type "list_iterator", data := .fields #[.ref l, .int 0 0] } = h2
  have kp2 : ∀ b o, s.heap.get? b = some o → h2.get? b = some o := fun b o e => by rw [← hs2]; exact Heap.get?_push_of_some _ e
  have ht2 : h2.IsList T0 init.toArray := ht.at fun o e => kp2 _ _ e
  have sz2 : h2.objs.size = s.heap.objs.size + 1 := by rw [← hs2]; exact Heap.size_push _ _
  refine wpAny_bind (wpAny_pure ?_)
  simp only [List.forIn_cons, List.forIn_nil]
  have ty : ({ s with heap := h2 } : Shared).TypeIs (.ref T0) "list" := ht2.typeIs
  refine wpAny_bind (wpAny_bind (wpAny_bind (wpAny_isInstance (T := "list") (b := false) ty F.sub_list_str ?_)))
  simp only [Bool.false_eq_true, if_false]
  refine wpAny_pure (wpAny_bind (wpAny_bind (wpAny_isInstance (T := "list") (b := false) ty F.sub_list_bytes ?_)))
  simp only [Bool.false_eq_true, if_false]
  refine wpAny_pure (wpAny_bind (wpAny_bind (wpAny_isInstance (T := "list") (b := false) ty F.sub_list_bytearray ?_)))
  simp only [Bool.false_eq_true, if_false]
  refine wpAny_pure (wpAny_pure ?_)
  refine wpAny_bind (wpAny_newObj_type ?_)
  have W := Walks.list (prog := prog) (w := w) (A := A.in1) hh s.heap.objs.size l (Nat.ne_of_lt hlt) its.toArray
  have hfS : ∀ b ∈ [s.heap.objs.size, l], b < h2.objs.size := fun b hb => by
    rw [sz2]
    rcases List.mem_cons.mp hb with rfl | hb
    · exact Nat.lt_succ_self _
    · rcases List.mem_cons.mp hb with rfl | hb
      · exact Nat.lt_succ_of_lt hlt
      · cases hb
  have hT0 : T0 < s.heap.objs.size := by obtain ⟨_, e, _⟩ := ht; exact Heap.lt_size e
  have hSf : h2.objs.size ∉ [s.heap.objs.size, l] := fun hm => Nat.lt_irrefl _ (hfS _ hm)
  have notI : ∀ a o, s.heap.get? a = some o → a ≠ s.heap.objs.size := fun a o e => Nat.ne_of_lt (Heap.lt_size e)
  have l1 : its.toArray.size = lss.length := by simpa using hn
  have hzz : ∀ i, i ≤ its.toArray.size → (preCat init (fun j => lss.getD j []) i).length ≤ sizeLine := fun i hi => by
    rw [preCat_eq init lss i (by omega)]
    refine Nat.le_trans ?_ hsz
    rw [List.length_append, List.length_append]
    refine Nat.add_le_add_left ?_ _
    have : lss.flatten = (lss.take i).flatten ++ (lss.drop i).flatten := by rw [← List.flatten_append, List.take_append_drop]
    rw [this, List.length_append]
    omega
  have kp3 : ∀ b o, h2.get? b = some o → (h2.push { cls := .type "list", data := .seq #[.ref T0] }).get? b = some o := fun b o e => Heap.get?_push_of_some _ e
  have ne2 : ∀ a o, s.heap.get? a = some o → a ≠ h2.objs.size := fun a o e => Nat.ne_of_lt (by rw [sz2]; exact Nat.lt_succ_of_lt (Heap.lt_size e))
  have T0e : ∃ o, s.heap.get? T0 = some o := by obtain ⟨o, e, _⟩ := ht; exact ⟨o, e⟩
  obtain ⟨oT, eT⟩ := T0e
  refine wpAny_pure ⟨plainId_quiet F.plain_sum_loop _, sum_lists_loop W init (fun j => lss.getD j []) h2.objs.size hSf hfS s.heap (by rw [sz2]; exact Nat.le_succ _) (fun i v hv => ?_) hzz its.toArray.size 0 _ T0 0 rfl (Nat.zero_le _) ?_ (fun b o hbw hbS e => kp3 b o (kp2 b o e)) (Heap.get?_push_size _ rfl) (ht2.at fun o e => kp3 _ _ e) ?_ (ne2 _ _ eT) (.inl rfl) fun h' tk T' hk hT' hw' hs' hz' => ?_⟩
  · obtain ⟨a, e1, e2⟩ := hi i v (by simpa using hv)
    have ea : ∃ o, s.heap.get? a = some o := by obtain ⟨o, e, _⟩ := e2; exact ⟨o, e⟩
    obtain ⟨oa, ea⟩ := ea
    exact ⟨a, e1, e2, by simpa using notI a oa ea, ne2 a oa ea⟩
  · refine ⟨?_, ?_⟩
    · refine ⟨_, kp3 _ _ (by rw [← hs2]; exact Heap.get?_push_size _ rfl), rfl, rfl⟩
    · exact hl.at fun o e => kp3 _ _ (kp2 _ _ e)
  · simpa using notI T0 oT eT
  · have hp := preCat_eq init lss its.toArray.size (by omega)
    rw [hp, l1, List.take_length] at hT' hz'
    exact h h' tk T' (fun b o e => hk b o (by simpa using notI b o e) (ne2 b o e) e) hT' (hz'.imp (fun z => by
      have z' : lss.length = 0 := z
      rw [← hn] at z'
      exact List.eq_nil_of_length_eq_zero z') id)
end
/-- lists, each of its own -/
theorem lists_are {P : Program} {w : World} {C : Ct} {G H : Hp} {s : Shared} (ok : HOk P w H s.heap) (g : Same G H) : ∀ {ds : List D} {vs : List V} {its : List Value} {ls : List (List D)}, Reps C G ds vs → Vals vs its → listsOf ds = some ls →
    ∃ (lss : List (List Value)) (vss : List (List V)), its.length = lss.length ∧ (∀ (i : Nat) (v : Value), its[i]? = some v → ∃ a, v = .ref a ∧ s.heap.IsList a (lss.getD i []).toArray) ∧ Vals vss.flatten lss.flatten ∧ Reps C G ls.flatten vss.flatten
  | [], _, _, ls, .nil, .nil, e => by
    cases e
    exact ⟨[], [], rfl, fun i v h => by simp at h, .nil, .nil⟩
  | d :: ds, _, _, ls, .cons r1 r2, .cons q1 q2, e => by
    cases d with
    | lst es =>
      simp only [listsOf] at e
      cases hd : listsOf ds with
      | none => rw [hd] at e; cases e
      | some ms =>
        rw [hd] at e
        cases e
        obtain ⟨lss, vss, h1, h2, h3, h4⟩ := lists_are ok g r2 q2 hd
        cases r1 with
        | lst hp rs =>
          cases q1
          obtain ⟨us, q, il⟩ := lst_is ok (g _ _ hp)
          refine ⟨us :: lss, _ :: vss, by simp [h1], fun i v hv => ?_, q.append h3, Reps.app rs h4⟩
          cases i with
          | zero =>
            simp at hv
            exact ⟨_, hv.symm, by simpa using il⟩
          | succ i => simpa using h2 i v (by simpa using hv)
    | _ => cases e
theorem call_sum2 {X : Cx} {C : Ct} (hc : X.calm = true) {ds es : List D} {ls : List (List D)} {G : Hp} {pins : List (Addr × Obj)} {s : Shared} {σ : L2.St} {H : Hp} {v u : V} {us : List Value} {Q : VK} (I : L2.Inv X pins σ H s) (r : Vals [v, u] us) (gh : Same G H) (uv : Us C G H (.lst ds) v) (uu : Us C G H (.lst es) u)
    (hl : listsOf ds = some ls) (hd : ds ≠ []) (hz : (es ++ ls.flatten).length ≤ sizeLine) (k : Alc C G H (.ow (.lst (es ++ ls.flatten))) Q) : wpAny (model X.prog X.w) X.A (call (.builtin "sum") us) (EP X pins σ Q) X.xe s := by
  obtain ⟨p, ws, rfl, h, rr⟩ := uv.lst gh
  obtain ⟨q, zs, rfl, h', rr'⟩ := uu.lst gh
  obtain ⟨u1, us', rfl, r1, r2⟩ : ∃ u1 us', us = u1 :: us' ∧ RelV (.ref p) u1 ∧ Vals [V.ref q] us' := by cases r with | cons a b => exact ⟨_, _, rfl, a, b⟩
  cases r1
  obtain rfl := Vals.ref1 r2
  obtain ⟨its, q1, i1⟩ := lst_is I.hok h
  obtain ⟨ini, q2, i2⟩ := lst_is I.hok h'
  obtain ⟨lss, vss, a1, a2, a3, a4⟩ := lists_are I.hok gh rr q1 hl
  have vz : (zs ++ vss.flatten).length ≤ sizeLine := by
    rw [List.length_append, ← Reps.length rr', ← Reps.length a4, ← List.length_append]; exact hz
  have lz : (ini ++ lss.flatten).length ≤ sizeLine := by
    rw [List.length_append, ← q2.length, ← a3.length, ← List.length_append]; exact vz
  refine sum_lists (I.ok.hd hc) i1 i2 a2 a1 lz fun h2 tk T' hk hT' hz' => ?_
  rcases hz' with z | ⟨z1, z2⟩
  · subst z
    cases q1
    cases rr
    exact (hd rfl).elim
  · have hf : H T' = none := I.hok.fresh z1
    have I2 : L2.Inv X pins σ (upd H T' (.lst (zs ++ vss.flatten))) { s with heap := h2, toks := tk } := I.laid hk z1 ⟨vz, _, 0, q2.append a3, z2⟩
    exact ⟨.ref T', _, I2, rfl, k.own gh hf (.lst (Reps.app rr' a4))⟩
section
variable {X : Cx} {C : Ct} {a b o : Expr} {ees : Es} {eo : E} {p pos apos : Pos}
theorem call_sum2R (hc : X.calm = true) : CallR X (.builtin "sum") (rBi C .sum2) := by
  intro pins s σ H vs us Q I r ⟨G, ds, t, gh, ps, e, k⟩
  cases ds with
  | nil => cases e
  | cons d ds =>
    cases ds with
    | nil => cases d <;> cases e
    | cons d2 ds =>
      cases ds with
      | cons _ _ => cases d <;> cases d2 <;> cases e
      | nil =>
        obtain ⟨v, u, rfl, u1, u2⟩ := two_of ps
        cases d with
        | lst xs =>
          cases d2 with
          | lst es =>
            simp only [biD] at e
            cases hl : listsOf xs with
            | none => rw [hl] at e; cases e
            | some ls =>
              rw [hl] at e
              simp only at e
              split at e
              · rename_i hz
                cases e
                exact call_sum2 hc I r gh u1 u2 hl hz.1 hz.2 k
              · cases e
          | _ => cases e
        | _ => cases d2 <;> cases e
theorem ge_sum2 (hc : X.calm = true) (hg : Gl X "sum") (hm : X.mg "sum" = none) (hn : notStar a = true) (hns : noStars [b] = true) (ha : PA X [a, b] (tEu C ees)) : PE X (.Call (.Name "sum" p) [a, b] [] pos) (tE C (.bi .sum2 ees)) := by
  refine PE.imp (pe_callB (call_sum2R (C := C) hc) hg hm PyProof.Rows.boot_sum ha (by decide) (by decide) (star_cons hn) (star_no hns)) fun σ H Q ⟨G, P, r, y, r', st, e, k⟩ => ?_
  simp only [ev] at e
  split at e
  · rename_i ds r1 h1
    obtain ⟨t, ht, rfl, rfl⟩ := ofT_ok e
    exact ⟨G, P, r, ds, _, st, h1, fun vs G1 H1 P1 st1 s1 rs p1 => ⟨G1, ds, t, st1.gh, rs, ht, k.alc st1 s1 p1⟩⟩
  · cases e
/-- d.get(k, x) of a dict of the module -/
def tTabGet (C : Ct) (to : TE) (t : TA) : TE := fun σ H Q => to σ H fun x H1 => (∃ q es n, x = .ref q ∧ C.K.lookup q = some ⟨.type "dict", none, .dict es n, #[]⟩) ∧ t σ H1 fun xs H2 => ∃ q z y, x = .ref q ∧ xs = [.str z, y] ∧ (q == sysModules) = false ∧
  ((∃ v, KDct C.K C.w q z v ∧ Q v H2) ∨ (KMiss C.K C.w q z ∧ Q y H2))
theorem pe_tabget {to : TE} {t : TA} (hK : X.K = C.K) (hw : X.w = C.w) (ho : PE X o to) (ha : PA X [a, b] t)
    (hbase : attributeBase o "get" X.env (eval o X.env) = eval o X.env)
    (hfew : ((backTo pos (starEach [a, b] X.env)).all (fun x => !x.1) && (backToKw pos (keywordEach [] X.env)).all (fun x => x.1.isSome)
      && decide (([a, b] : List Expr).length + ([] : List Keyword).length + (if ([] : List Keyword).isEmpty then 0 else 1) < 30)) = true)
    (hline : (apos.endLine == pos.line) = true) (hs : starEach [a, b] X.env = (false, eval a X.env) :: starEach [b] X.env) (hplain : (backTo pos (starEach [b] X.env)).any (·.1) = false) :
    PE X (.Call (.Attribute o "get" apos) [a, b] [] pos) (tTabGet C to t) := by
  refine ⟨fun pins s σ H Q I h => ?_⟩
  refine wpAny_Call_method_late hbase hfew hline rfl (thn (ho.run pins s σ H _ I h) fun v s1 ⟨x, H1, I1, r1, ⟨q, es, n, ex, hl⟩, q1⟩ => ?_)
  subst ex
  obtain rfl : v = Value.ref q := r1
  rw [← hK] at hl
  have hh := I1.kIn q _ hl
  refine ⟨"dict", "dict.get", PySem.F.plainAttrs_dict, PySem.F.slot_dict_get, PySem.F.type_dict_get, ⟨_, hh, rfl⟩, fun a' e' => (by cases e'; exact ⟨_, hh, rfl⟩), ?_⟩
  have hA := ha.run pos pins s1 σ H1 _ I1 q1
  rw [hs] at hA ⊢
  refine Calls.callWith_builtin (by show (false || (backTo pos (starEach [b] X.env)).any (·.1)) = false; rw [hplain] <;> rfl) (Calls.evalArgs_plain ?_)
  refine thn hA fun us s2 ⟨vs, H2, I2, r2, q', z, y, eq', evs', low, q2⟩ => ?_
  cases eq'
  subst evs'
  obtain ⟨u1, u2, rfl, ru1, ru2⟩ := Vals.two r2
  obtain ⟨tz, rfl⟩ := (show ∃ t, u1 = Value.str z t from ru1)
  have hh2 := I2.kIn q _ hl
  have hty : s2.TypeIs (.ref q) "dict" := ⟨_, hh2, rfl⟩
  rcases q2 with ⟨r, ⟨es2, n2, u0, hl2, hk, e, ru⟩, q2⟩ | ⟨⟨es2, n2, hl2, hk, _, e⟩, q2⟩
  · rw [← hK] at hl2 e
    rw [← hw] at hk
    have hm := PySem.W.mapOf_K (prog := X.prog) (w := X.w) I2.kIn hl2 hk
    refine call_meetsIn PySem.F.slot_dict_get hty PySem.F.entry_dict_get (PySem.F.args_dict_get_3 _ _ _) (meets_dict_get_default (strKind X.prog X.w) q (strKind_is X.prog X.w z tz) low u2) ⟨_, hm, ?_⟩
    rw [PySem.W.find_K hl2 e]
    exact ⟨_, _, I2.tok _, ru, q2⟩
  · rw [← hK] at hl2 e
    rw [← hw] at hk
    have hm := PySem.W.mapOf_K (prog := X.prog) (w := X.w) I2.kIn hl2 hk
    refine call_meetsIn PySem.F.slot_dict_get hty PySem.F.entry_dict_get (PySem.F.args_dict_get_3 _ _ _) (meets_dict_get_default (strKind X.prog X.w) q (strKind_is X.prog X.w z tz) low u2) ⟨_, hm, ?_⟩
    rw [PySem.W.find_K hl2 e]
    exact ⟨_, _, I2.tok _, ru2, q2⟩
theorem Us.atom {G H G' : Hp} {d : D} {v : V} (h : atomD d = true) (u : Us C G H d v) : Rep C G' d v := by
  rcases u with u | ⟨p, o, rfl, _, f⟩
  · cases u <;> first | (cases h; done) | constructor
  · cases f <;> cases h
theorem star_all : ∀ {es : List Expr}, noStars es = true → ∀ {env : PySem.Env} {pos : Pos}, (backTo pos (starEach es env)).all (fun x => !x.1) = true := by
  intro es h env pos
  have := star_no h (env := env) (pos := pos)
  rw [List.all_eq_not_any_not, Bool.not_eq_true']
  simpa using this
theorem ge_get (hK : X.K = C.K) (hw : X.w = C.w) (hb : baseOk o = true) (hl : (apos.endLine == pos.line) = true) (hn : noStars [a, b] = true) (ho : PE X o (tE C eo)) (ha : PA X [a, b] (tEu C ees)) : PE X (.Call (.Attribute o "get" apos) [a, b] [] pos) (tE C (.mt .get eo ees)) := by
  have hn1 : notStar a = true := by simp only [noStars, List.all_cons, Bool.and_eq_true] at hn; exact hn.1
  have hn2 : noStars [b] = true := by simp only [noStars, List.all_cons, Bool.and_eq_true] at hn ⊢; exact hn.2
  have hfew : ((backTo pos (starEach [a, b] X.env)).all (fun x => !x.1) && (backToKw pos (keywordEach [] X.env)).all (fun x => x.1.isSome)
      && decide (([a, b] : List Expr).length + ([] : List Keyword).length + (if ([] : List Keyword).isEmpty then 0 else 1) < 30)) = true := by
    rw [star_all hn]; rfl
  refine PE.imp (pe_tabget hK hw ho ha (base_ok hb) hfew hl (star_cons hn1) (star_no hn2)) fun σ H Q ⟨G, P, r, y, r', st, e, k⟩ => ?_
  simp only [ev] at e
  obtain ⟨x1, r1, h1, e⟩ := R.use_ok e
  split at e
  · rename_i ds r2 h2
    obtain ⟨t, ht, rfl, rfl⟩ := ofT_ok e
    refine tE_use ees.pu st h1 fun v1 G1 H1 P1 st1 s1 u1 p1 => ?_
    have u0 := u1 _ _ _ (Stp.refl ..) fun _ => Same.refl _
    have fin : ∀ (z : Str) (y : D) (ks ms : List Str) (vs : List D), ds = [.str z, y] → x1.toD = .tab ks vs ms → ((∃ d, look2 z ks vs = some d ∧ t = .fr d) ∨ (ms.contains z = true ∧ atomD y = true ∧ t = .fr y)) → (∃ q es n, v1 = .ref q ∧ C.K.lookup q = some ⟨.type "dict", none, .dict es n, #[]⟩) ∧ tEu C ees σ H1 fun xs H2 => ∃ q z y, v1 = .ref q ∧ xs = [.str z, y] ∧ (q == sysModules) = false ∧ ((∃ v, KDct C.K C.w q z v ∧ Q v H2) ∨ (KMiss C.K C.w q z ∧ Q y H2)) := by
      intro z y ks ms vs eds ex hh
      subst eds
      rw [ex] at u0
      obtain ⟨q, ws, rfl, low, g1, g2, g3⟩ := u0.tab st1.gh
      refine ⟨?_, _, _, _, _, _, st1, h2, fun us G2 H2 P2 st2 s2 ps p2 => ?_⟩
      · rcases hh with ⟨d, hd, _⟩ | ⟨hm, _, _⟩
        · obtain ⟨v, ⟨es, n, u, hl, _⟩, _⟩ := look2_at hd g1 g3
          exact ⟨q, es, n, rfl, hl⟩
        · obtain ⟨es, n, hl, _⟩ := g2 z (by simpa using hm)
          exact ⟨q, es, n, rfl, hl⟩
      · obtain ⟨w1, w2, rfl, uw1, uw2⟩ := two_of ps
        cases uw1.str
        have s02 := s1.trans s2
        rcases hh with ⟨d, hd, rfl⟩ | ⟨hm, hy, rfl⟩
        · obtain ⟨v, kd, rv⟩ := look2_at hd g1 g3
          exact ⟨q, z, w2, rfl, rfl, low, .inl ⟨v, kd, k.fr st2 s02 (fun h => (p1 (andT h).1).trans (p2 (andT h).2)) (Rep.mono s2.gg rv)⟩⟩
        · exact ⟨q, z, w2, rfl, rfl, low, .inr ⟨g2 z (by simpa using hm), k.fr st2 s02 (fun h => (p1 (andT h).1).trans (p2 (andT h).2)) (Us.atom hy uw2)⟩⟩
    revert ht
    generalize hx : x1.toD = dx
    intro ht
    cases dx with
    | tab ks vs ms =>
      cases ds with
      | nil => cases ht
      | cons z ds =>
        cases z with
        | str z =>
          cases ds with
          | nil => cases ht
          | cons y ds =>
            cases ds with
            | cons _ _ => cases ht
            | nil =>
              simp only [mtD] at ht
              refine fin z y ks ms vs rfl hx ?_
              split at ht
              · rename_i v hv
                cases ht
                exact .inl ⟨_, hv, rfl⟩
              · split at ht
                · rename_i hc
                  cases ht
                  simp only [Bool.and_eq_true] at hc
                  exact .inr ⟨hc.1, hc.2, rfl⟩
                · cases ht
        | _ => cases ht
    | _ => cases ht
  · cases e
end
end FJ

/-! Targets, what is walked, comprehensions. -/
namespace FJ
open PySem L2

def Pput (P : Nat → Addr → Prop) (i : Nat) (A : Addr → Prop) : Nat → Addr → Prop := fun j a => (j = i ∧ A a) ∨ (j ≠ i ∧ P j a)
def Pout (P : Nat → Addr → Prop) (vs : List Nat) : Nat → Addr → Prop := fun j a => j ∉ vs ∧ P j a
section
variable {C : Ct} {G H G' H' G1 H1 : Hp} {P P' P1 P2 : Nat → Addr → Prop} {r r' : Env} {σ σ' : St} {A B : Addr → Prop} {x : Val} {v : V} {t : T} {d : D} {Q : VK}
theorem Sst.put (st : Sst C G H P r σ) {i : Nat} (o : Own C G H t v A) (hd : ∀ j a, A a → j ≠ i → ¬ P j a) (hi : i < σ.length) : Sst C G H (Pput P i A) (r.set i (some t)) (σ.set i (some v)) where
  len := by rw [List.length_set, List.length_set]; exact st.len
  gh := st.gh
  sl := fun j t' h => by
    rcases getSet h with ⟨rfl, ht, hl⟩ | ⟨hne, h⟩
    · cases ht
      refine ⟨v, List.getElem?_set_self hi, ?_⟩
      have : Pput P i A i = A := by
        funext a
        exact propext ⟨fun h => h.elim (fun h => h.2) fun h => (h.1 rfl).elim, fun h => .inl ⟨rfl, h⟩⟩
      rw [this]; exact o
    · obtain ⟨w, h1, h2⟩ := st.sl j t' h
      refine ⟨w, by rw [List.getElem?_set_ne hne]; exact h1, ?_⟩
      have : Pput P i A j = P j := by
        funext a
        exact propext ⟨fun h => h.elim (fun h => (hne h.1.symm).elim) fun h => h.2, fun h => .inr ⟨hne.symm, h⟩⟩
      rw [this]; exact h2
  pe := fun j a h => by
    rcases h with ⟨rfl, h⟩ | ⟨hne, h⟩
    · exact ⟨t, List.getElem?_set_self (by rw [st.len]; exact hi)⟩
    · obtain ⟨t', h'⟩ := st.pe j a h
      exact ⟨t', by rw [List.getElem?_set_ne (Ne.symm hne)]; exact h'⟩
  dj := fun j k a h1 h2 => by
    rcases h1 with ⟨rfl, h1⟩ | ⟨n1, h1⟩ <;> rcases h2 with ⟨rfl, h2⟩ | ⟨n2, h2⟩
    · rfl
    · exact (hd k a h1 n2 h2).elim
    · exact (hd j a h2 n1 h1).elim
    · exact st.dj j k a h1 h2
theorem Sst.big (st : Sst C G H P r σ) {i : Nat} (h : σ.length ≤ i) {A : Addr → Prop} (hA : ∀ a, ¬ A a) : Pput P i A = P := by
  funext j a
  refine propext ⟨fun h => h.elim (fun h => (hA a h.2).elim) fun h => h.2, fun hp => .inr ⟨?_, hp⟩⟩
  rintro rfl
  obtain ⟨t, ht⟩ := st.pe j a hp
  have := ltOf ht
  rw [st.len] at this; omega
theorem Sst.putF (st : Sst C G H P r σ) (i : Nat) (h : Rep C G d v) : Sst C G H (Pput P i fun _ => False) (r.set i (some (.fr d))) (σ.set i (some v)) := by
  by_cases hi : i < σ.length
  · exact st.put (.fr h fun _ z => z) (fun _ _ z => z.elim) hi
  · have hi' : σ.length ≤ i := by omega
    rw [List.set_eq_of_length_le hi', List.set_eq_of_length_le (by rw [st.len]; exact hi'), st.big hi' fun _ z => z]
    exact st
theorem Pput_sub {i : Nat} : ∀ (j : Nat) (a : Addr), Pput P i (fun _ => False) j a → P j a := fun _ _ h => h.elim (fun h => h.2.elim) fun h => h.2
theorem Stp.setP (s : Stp G H P G' H' P') (h : ∀ j a, P2 j a → P' j a ∨ (∃ j, P j a) ∨ H a = none) : Stp G H P G' H' P2 :=
  ⟨s.gg, s.kp, s.ld, fun i a hp => (h i a hp).elim (fun z => s.pp i a z) id, s.gn⟩
theorem Stp.sub (s : Stp G H P G' H' P') (h : ∀ j a, P2 j a → P' j a) : Stp G H P G' H' P2 := s.setP fun j a hp => .inl (h j a hp)
theorem Stp.updN (s : Stp G H P G' H' P') {D : Addr} {o : HO} (h : H D = none) : Stp G H P G' (upd H' D o) P' where
  gg := s.gg
  kp := fun a u e n => by rw [upd_ne (ne_of_none e h)]; exact s.kp a u e n
  ld := fun a e => by
    by_cases ha : a = D
    · rw [ha]; exact h
    · rw [upd_ne ha] at e; exact s.ld a e
  pp := s.pp
  gn := s.gn
theorem Sst.updD (st : Sst C G H P r σ) {D : Addr} {o : HO} (hG : G D = none) (hP : ∀ j, ¬ P j D) : Sst C G (upd H D o) P r σ where
  len := st.len
  gh := fun a u e => by rw [upd_ne (ne_of_none e hG)]; exact st.gh a u e
  sl := fun i t e => by
    obtain ⟨v, h1, h2⟩ := st.sl i t e
    refine ⟨v, h1, Own.mono (Same.refl G) h2 (fun a h => (Own.dom h2 h).1) fun a u ha e => ?_⟩
    rw [upd_ne (fun z => hP i (by rw [← z]; exact ha))]; exact e
  pe := st.pe
  dj := st.dj
/-- what nobody has of the frame stays as it is -/
theorem Stp.stays (s : Stp G H P G' H' P') {a : Addr} {o : HO} (h : H a = some o) (n : ∀ j, ¬ P j a) (hG : G a = none) : H' a = some o ∧ G' a = none ∧ ∀ j, ¬ P' j a := by
  refine ⟨s.kp a o h n, ?_, fun j hj => ?_⟩
  · by_cases hg : G' a = none
    · exact hg
    · exact (s.gn a hG hg).elim (fun ⟨j, hj⟩ => (n j hj).elim) fun z => by rw [h] at z; cases z
  · exact (s.pp j a hj).elim (fun ⟨j, hj⟩ => (n j hj).elim) fun z => by rw [h] at z; cases z
theorem Own.stays (s : Stp G H P G' H' P') (o : Own C G H t v A) (n : ∀ j a, A a → ¬ P j a) : Own C G' H' t v A ∧ ∀ j a, A a → ¬ P' j a := by
  refine ⟨Own.mono s.gg o (fun a ha => ?_) (fun a u ha e => s.kp a u e fun j => n j a ha), fun j a ha => ?_⟩
  · obtain ⟨h1, h2⟩ := Own.dom o ha
    cases e : H a with
    | none => exact (h2 e).elim
    | some u => exact (s.stays e (fun j => n j a ha) h1).2.1
  · obtain ⟨h1, h2⟩ := Own.dom o ha
    cases e : H a with
    | none => exact (h2 e).elim
    | some u => exact (s.stays e (fun j => n j a ha) h1).2.2 j

/-! ### slots wiped, laid back -/
theorem wipe_in {σ : St} {i : Nat} : ∀ {vs : List Nat}, i ∈ vs → (wipe σ vs)[i]? = if i < σ.length then some none else none
  | v :: vs, h => by
    unfold wipe
    by_cases e : v = i
    · subst e
      by_cases hl : v < σ.length
      · rw [List.getElem?_set_self (by rw [wipe_length]; exact hl), if_pos hl]
      · rw [if_neg hl, List.getElem?_eq_none]; rw [List.length_set, wipe_length]; omega
    · rw [List.getElem?_set_ne e]
      exact wipe_in (by simpa [Ne.symm e] using h)
theorem wipe_out {σ : St} {i : Nat} : ∀ {vs : List Nat}, i ∉ vs → (wipe σ vs)[i]? = σ[i]?
  | [], _ => rfl
  | v :: vs, h => by
    unfold wipe
    have h1 : v ≠ i := fun z => h (by rw [z]; exact List.mem_cons_self)
    rw [List.getElem?_set_ne h1]
    exact wipe_out fun z => h (List.mem_cons_of_mem _ z)
theorem wipeE_eq : ∀ (vs : List Nat) (r : Env), (wipeE vs r).length = r.length ∧ ∀ i, (i ∉ vs → (wipeE vs r)[i]? = r[i]?) ∧ (i ∈ vs → ∀ t, (wipeE vs r)[i]? ≠ some (some t))
  | [], r => ⟨rfl, fun i => ⟨fun _ => rfl, fun h => by simp at h⟩⟩
  | v :: vs, r => by
    obtain ⟨l, h⟩ := wipeE_eq vs r
    unfold wipeE
    refine ⟨by rw [List.length_set]; exact l, fun i => ⟨fun hi => ?_, fun hi t e => ?_⟩⟩
    · have h1 : v ≠ i := fun z => hi (by rw [z]; exact List.mem_cons_self)
      rw [List.getElem?_set_ne h1]
      exact (h i).1 fun z => hi (List.mem_cons_of_mem _ z)
    · rcases getSet e with ⟨_, z, _⟩ | ⟨hne, e⟩
      · cases z
      · exact (h i).2 (by simpa [Ne.symm hne] using hi) t e
/-- outside of vs as it was -/
def Fr (vs : List Nat) (σ σ' : St) : Prop := σ'.length = σ.length ∧ ∀ i, i ∉ vs → σ'[i]? = σ[i]?
theorem Fr.refl {vs : List Nat} : Fr vs σ σ := ⟨rfl, fun _ _ => rfl⟩
theorem Fr.trans {vs ws : List Nat} {σ'' : St} (a : Fr vs σ σ') (b : Fr ws σ' σ'') : Fr (vs ++ ws) σ σ'' :=
  ⟨b.1.trans a.1, fun i h => (b.2 i fun z => h (List.mem_append_right _ z)).trans (a.2 i fun z => h (List.mem_append_left _ z))⟩
theorem Fr.set {i : Nat} {o : Option V} : Fr [i] σ (σ.set i o) := ⟨List.length_set, fun j h => List.getElem?_set_ne (by simpa using Ne.symm (by simpa using h))⟩
theorem Fr.wipe {vs : List Nat} (f : Fr vs σ σ') : L2.wipe σ' vs = L2.wipe σ vs := by
  apply List.ext_getElem?
  intro i
  by_cases h : i ∈ vs
  · rw [wipe_in h, wipe_in h, f.1]
  · rw [wipe_out h, wipe_out h, f.2 i h]
theorem Sst.wipe (st : Sst C G H P r σ) (vs : List Nat) : Sst C G H (Pout P vs) (wipeE vs r) (L2.wipe σ vs) where
  len := by rw [(wipeE_eq vs r).1, wipe_length]; exact st.len
  gh := st.gh
  sl := fun i t e => by
    by_cases h : i ∈ vs
    · exact (((wipeE_eq vs r).2 i).2 h t e).elim
    · rw [((wipeE_eq vs r).2 i).1 h] at e
      obtain ⟨v, h1, h2⟩ := st.sl i t e
      refine ⟨v, by rw [wipe_out h]; exact h1, ?_⟩
      have : Pout P vs i = P i := by
        funext a
        exact propext ⟨fun h => h.2, fun z => ⟨h, z⟩⟩
      rw [this]; exact h2
  pe := fun i a h => by
    obtain ⟨t, e⟩ := st.pe i a h.2
    exact ⟨t, by rw [((wipeE_eq vs r).2 i).1 h.1]; exact e⟩
  dj := fun i j a h1 h2 => st.dj i j a h1.2 h2.2
theorem backE_eq {r0 : Env} : ∀ (vs : List Nat) (r : Env), r.length = r0.length → (backE r0 vs r).length = r.length ∧ ∀ i, (i ∉ vs → (backE r0 vs r)[i]? = r[i]?) ∧ (i ∈ vs → (backE r0 vs r)[i]? = r0[i]?)
  | [], r, _ => ⟨rfl, fun i => ⟨fun _ => rfl, fun h => by simp at h⟩⟩
  | v :: vs, r, hl => by
    obtain ⟨l, h⟩ := backE_eq vs r hl
    unfold backE
    split
    · rename_i o ho
      refine ⟨by rw [List.length_set]; exact l, fun i => ⟨fun hi => ?_, fun hi => ?_⟩⟩
      · have h1 : v ≠ i := fun z => hi (by rw [z]; exact List.mem_cons_self)
        rw [List.getElem?_set_ne h1]
        exact (h i).1 fun z => hi (List.mem_cons_of_mem _ z)
      · by_cases e : v = i
        · subst e
          rw [List.getElem?_set_self (by rw [l, hl]; exact ltOf ho), ho]
        · rw [List.getElem?_set_ne e]
          exact (h i).2 (by simpa [Ne.symm e] using hi)
    · rename_i ho
      refine ⟨l, fun i => ⟨fun hi => (h i).1 fun z => hi (List.mem_cons_of_mem _ z), fun hi => ?_⟩⟩
      by_cases e : i ∈ vs
      · exact (h i).2 e
      · have : i = v := by simpa [e] using hi
        subst this
        rw [(h i).1 e, ho, List.getElem?_eq_none]
        rw [hl]
        exact List.getElem?_eq_none_iff.mp ho
theorem stillE_at : ∀ {vs : List Nat} {r : Env} {i : Nat} {t : T}, stillE r vs = true → i ∈ vs → r[i]? = some (some t) → ∃ d, t = .fr d
  | v :: vs, r, i, t, h, hi, e => by
    simp only [stillE, Bool.and_eq_true] at h
    by_cases hv : i = v
    · subst hv
      have h1 := h.1
      rw [e] at h1
      cases t with
      | fr d => exact ⟨d, rfl⟩
      | _ => cases h1
    · exact stillE_at h.2 (by simpa [hv] using hi) e
/-- behind a comprehension -/
theorem Sst.back {vs : List Nat} {r0 rf : Env} (st1 : Sst C G1 H1 P1 r0 σ) (hs : stillE r0 vs = true) (st : Sst C G H P rf (L2.wipe σ vs)) (s : Stp G1 H1 P1 G H P) : Sst C G H (Pout P vs) (backE r0 vs rf) σ := by
  have hl : rf.length = r0.length := by rw [st.len, st1.len, wipe_length]
  obtain ⟨l, be⟩ := backE_eq (r0 := r0) vs rf hl
  refine ⟨by rw [l, hl, st1.len], st.gh, fun i t e => ?_, fun i a h => ?_, fun i j a h1 h2 => st.dj i j a h1.2 h2.2⟩
  · by_cases h : i ∈ vs
    · rw [(be i).2 h] at e
      obtain ⟨d, rfl⟩ := stillE_at hs h e
      obtain ⟨v, h1, h2⟩ := st1.sl i _ e
      refine ⟨v, h1, ?_⟩
      cases h2 with
      | fr rp _ => exact .fr (Rep.mono s.gg rp) fun a z => z.1 h
    · rw [(be i).1 h] at e
      obtain ⟨v, h1, h2⟩ := st.sl i t e
      refine ⟨v, by rw [wipe_out h] at h1; exact h1, ?_⟩
      have : Pout P vs i = P i := by
        funext a
        exact propext ⟨fun h => h.2, fun z => ⟨h, z⟩⟩
      rw [this]; exact h2
  · obtain ⟨t, e⟩ := st.pe i a h.2
    exact ⟨t, by rw [(be i).1 h.1]; exact e⟩
/-- what is walked and hidden -/
def Hdn (C : Ct) (G H : Hp) (P : Nat → Addr → Prop) (P0 : Nat → Addr → Prop) (H0 : Hp) (σ : St) : Option (Nat × T) → Prop
  | none => True
  | some (i, t) => ∃ v A, σ[i]? = some (some v) ∧ Own C G H t v A ∧ (∀ j a, A a → ¬ P j a) ∧ ∀ a, A a → (∃ j, P0 j a) ∨ H0 a = none
theorem Sst.show {P0 : Nat → Addr → Prop} {H0 : Hp} {hid : Option (Nat × T)} (st : Sst C G H P r σ') (s : Stp G1 H1 P1 G H P) (h : Hdn C G1 H1 P1 P0 H0 σ hid) (hσ : ∀ i t, hid = some (i, t) → σ'[i]? = σ[i]?) :
    ∃ P3, Sst C G H P3 (showE hid r) σ' ∧ ∀ j a, P3 j a → P j a ∨ (H1 a ≠ none ∧ ((∃ j, P0 j a) ∨ H0 a = none)) := by
  cases hid with
  | none => exact ⟨P, st, fun j a z => .inl z⟩
  | some q =>
    obtain ⟨i, t⟩ := q
    obtain ⟨v, A, h1, h2, h3, h4⟩ := h
    obtain ⟨o, n⟩ := Own.stays s h2 h3
    have e := (hσ i t rfl).trans h1
    have st2 := st.put o (fun j a ha _ => n j a ha) (ltOf e)
    have : σ'.set i (some v) = σ' := by
      apply List.ext_getElem?
      intro j
      by_cases hj : i = j
      · subst hj
        rw [List.getElem?_set_self (ltOf e), e]
      · rw [List.getElem?_set_ne hj]
    rw [this] at st2
    refine ⟨_, st2, fun j a z => ?_⟩
    rcases z with ⟨_, z⟩ | ⟨_, z⟩
    · exact .inr ⟨(Own.dom h2 z).2, h4 a z⟩
    · exact .inl z
end

/-! ### targets -/
def tG (C : Ct) (tg : Tg) : TG := fun v σ H Q => ∃ G P r d r', Sst C G H P r σ ∧ Rep C G d v ∧ tg.bind d r = some r' ∧ ∀ σ' P', Sst C G H P' r' σ' → (∀ j a, P' j a → P j a) → Fr tg.slots σ σ' → Q σ' H
def tGs (C : Ct) (tgs : List Tg) : TGs := fun vs σ H Q => ∃ G P r ds r', Sst C G H P r σ ∧ Reps C G ds vs ∧ Tg.binds tgs ds r = some r' ∧ ∀ σ' P', Sst C G H P' r' σ' → (∀ j a, P' j a → P j a) → Fr (Tg.slotss tgs) σ σ' → Q σ' H
theorem PGs.imp {X : Cx} {e : List Expr} {t t' : TGs} (h : PGs X e t) (k : ∀ v σ H Q, t' v σ H Q → t v σ H Q) : PGs X e t' := ⟨fun pins s σ H v u Q I r q => h.run pins s σ H v u Q I r (k v σ H Q q)⟩
theorem PTs.imp {X : Cx} {e : List Expr} {t t' : TT} (h : PTs X e t) (k : ∀ σ H Q, t' σ H Q → t σ H Q) : PTs X e t' := ⟨fun pins s σ H Q I q => h.run pins s σ H Q I (k σ H Q q)⟩
section
variable {X : Cx} {C : Ct} {pos p : Pos} {e : Expr} {es : List Expr} {tg : Tg} {tgs : List Tg}
theorem gg_name {i : Nat} {x : Str} (hN : X.N.Nodup) (hi : X.N[i]? = some x) (hx : Loc X.env.scope x) (hf : X.fn x = true ∨ X.env.scope.names.lookup x = some .local) : PG X (.Name x pos) (tG C (.name i)) := by
  refine PG.imp (pg_name hN hi hx hf) fun v σ H Q ⟨G, P, r, d, r', st, rp, e, k⟩ => ?_
  simp only [Tg.bind] at e
  cases e
  exact k _ _ (st.putF i rp) Pput_sub (by simp only [Tg.slots]; exact Fr.set)
theorem ggs_nil : PGs X [] (tGs C []) := by
  refine PGs.imp pgs_nil fun v σ H Q ⟨G, P, r, ds, r', st, rp, e, k⟩ => ?_
  cases rp with
  | nil =>
    simp only [Tg.binds] at e
    cases e
    exact ⟨rfl, k σ P st (fun _ _ h => h) Fr.refl⟩
  | cons _ _ => simp only [Tg.binds] at e; cases e
theorem assign_cons (h : notStar e = true) : (assignEach (e :: es) X.env).map (·.2) = assign e X.env :: (assignEach es X.env).map (·.2) := by
  cases e <;> first | rfl | (simp [notStar] at h)
theorem assign_facts : ∀ {es : List Expr}, noStars es = true → (assignEach es X.env).length = es.length ∧ (assignEach es X.env).findIdx? (·.1) = none := by
  intro es
  induction es with
  | nil => intro _; exact ⟨rfl, rfl⟩
  | cons e es ih =>
    intro h
    simp only [noStars, List.all_cons, Bool.and_eq_true] at h
    obtain ⟨h1, h2⟩ := ih (by unfold noStars; exact h.2)
    have hs : assignEach (e :: es) X.env = (false, assign e X.env) :: assignEach es X.env := by
      cases e <;> first | rfl | (simp [notStar] at h)
    rw [hs]
    refine ⟨by rw [List.length_cons, List.length_cons, h1], ?_⟩
    rw [List.findIdx?_cons]
    simp [h2]
theorem ggs_cons (hn : notStar e = true) (h1 : PG X e (tG C tg)) (h2 : PGs X es (tGs C tgs)) : PGs X (e :: es) (tGs C (tg :: tgs)) := by
  refine PGs.imp (pgs_cons h1 h2 (assign_cons hn)) fun v σ H Q ⟨G, P, r, ds, r', st, rp, e, k⟩ => ?_
  cases rp with
  | nil => simp only [Tg.binds] at e; cases e
  | cons a b =>
    simp only [Tg.binds] at e
    split at e
    · rename_i r2 hr
      exact ⟨_, _, rfl, G, P, r, _, r2, st, a, hr, fun σ2 P2 st2 s2 f2 => ⟨G, P2, r2, _, r', st2, b, e, fun σ3 P3 st3 s3 f3 => k σ3 P3 st3 (fun j a h => s2 j a (s3 j a h)) (by simp only [Tg.slotss]; exact f2.trans f3)⟩⟩
    · cases e
theorem binds_len : ∀ {tgs : List Tg} {ds : List D} {r r' : Env}, Tg.binds tgs ds r = some r' → tgs.length = ds.length
  | [], [], _, _, _ => rfl
  | [], _ :: _, _, _, e => by simp [Tg.binds] at e
  | _ :: _, [], _, _, e => by simp [Tg.binds] at e
  | t :: ts, d :: ds, r, r', e => by
    simp only [Tg.binds] at e
    split at e
    · simp [binds_len e]
    · cases e
theorem gg_tup {k : Nat} (hK : X.K = C.K) (hc : X.calm = true) (hn : noStars es = true) (hl : es.length = tgs.length) (h : PGs X es (tGs C tgs)) : PG X (.Tuple es k pos) (tG C (.tup tgs)) := by
  refine PG.imp (pg_tup hc h (assign_facts hn).1 (assign_facts hn).2) fun v σ H Q ⟨G, P, r, d, r', st, rp, e, k⟩ => ?_
  cases d with
  | tup ds =>
    simp only [Tg.bind] at e
    cases rp with
    | tup hp rs =>
      refine ⟨_, _, rfl, SqT.of (st.gh _ _ hp), ?_, G, P, r, ds, r', st, rs, e, fun σ' P' st' s' f => k σ' P' st' s' (by simp only [Tg.slots]; exact f)⟩
      rw [hl, binds_len e, Reps.length rs]
  | _ => simp only [Tg.bind] at e; cases e
end

/-! ### what is walked -/
structure Wk (C : Ct) (J : L2.It) (ds : List D) (Gd : Hp → Prop) (G0 : Hp) : Prop where
  ex : ∃ Y, Walk J ds.length Gd Y ∧ ∀ i H x H', i < ds.length → Y i H x H' → ∀ G, Same G0 G → Same G H → ∃ d G', ds[i]? = some d ∧ Grow G H G' H' ∧ Rep C G' d x
def tI (C : Ct) (it : FJ.It) : TI := fun σ H R => ∃ G P r ds hid r', Sst C G H P r σ ∧ evi it r = .ok ds hid r' ∧ ∀ J G' H' P' Gd, Sst C G' H' P' (hideE hid r') σ → Stp G H P G' H' P' → (it.pu = true → Same H H') → Wk C J ds Gd G' → Gd H' →
  (∀ G2 H2 P2, Stp G' H' P' G2 H2 P2 → Same G2 H2 → Gd H2) → Hdn C G' H' P' P H σ hid → R J H'
section
variable {X : Cx} {C : Ct} {G H : Hp} {K : PySem.W.Frag} {ds es : List D} {vs ws : List V} {a b : Addr}
theorem wk_at {J : L2.It} {Gd : Hp → Prop} (w : Walk J vs.length Gd (YAt vs)) (rs : Reps C G ds vs) : Wk C J ds Gd G := by
  refine ⟨YAt vs, by rw [Reps.length rs]; exact w, ?_⟩
  rintro i H x H' hi ⟨e1, e2⟩ G2 s1 s2
  obtain ⟨d, h1, h2⟩ := Reps.getV rs e2
  exact ⟨d, G2, h1, by rw [e1]; exact Grow.refl s2, Rep.mono s1 h2⟩
theorem wk_list (rs : Reps C G ds vs) : Wk C (Itl K a) ds (fun H => SqL K H a vs) G := wk_at walk_list rs
theorem wk_tup (rs : Reps C G ds vs) : Wk C (Itt K a) ds (fun H => SqT K H a vs) G := wk_at walk_tup rs
theorem wk_str (z : Str) : Wk C (Its z) (z.cps.toList.map fun c => .str ⟨#[c]⟩) (fun _ => True) G := by
  refine ⟨fun i H v H' => H' = H ∧ ∃ c, z.cps[i]? = some c ∧ v = .str ⟨#[c]⟩, by rw [List.length_map, Array.length_toList]; exact walk_str, ?_⟩
  rintro i H x H' hi ⟨e1, c, e2, e3⟩ G2 s1 s2
  refine ⟨.str ⟨#[c]⟩, G2, ?_, by rw [e1]; exact Grow.refl s2, by rw [e3]; exact .str⟩
  rw [List.getElem?_map, Array.getElem?_toList, e2]; rfl
theorem wk_range {lo : Int} {n : Nat} : Wk C (Itr lo n) ((List.range n).map fun (i : Nat) => .int (lo + i)) (fun _ => True) G := by
  refine ⟨YFn fun i => .int (lo + i), by rw [List.length_map, List.length_range]; exact walk_range, ?_⟩
  rintro i H x H' hi ⟨e1, e2⟩ G2 s1 s2
  rw [List.length_map, List.length_range] at hi
  refine ⟨.int (lo + i), G2, ?_, by rw [e1]; exact Grow.refl s2, by rw [e2]; exact .int⟩
  rw [List.getElem?_map, List.getElem?_range hi]; rfl
theorem enumD_len : ∀ (ds : List D) (k : Nat), (enumD k ds).length = ds.length
  | [], _ => rfl
  | _ :: ds, k => by simp [enumD, enumD_len ds (k + 1)]
theorem enumD_get : ∀ (ds : List D) (k i : Nat), (enumD k ds)[i]? = (ds[i]?).map fun d => .tup [.int (k + i : Nat), d]
  | [], _, _ => by simp [enumD]
  | d :: ds, k, 0 => by simp [enumD]
  | d :: ds, k, i + 1 => by
    have := enumD_get ds (k + 1) i
    simp only [enumD, List.getElem?_cons_succ, this]
    congr 1
    funext d
    congr 4
    omega
theorem pair_item {d1 d2 : D} {x y v : V} {H' : Hp} {t : Addr} (s : Same G H) (r1 : Rep C G d1 x) (r2 : Rep C G d2 y) (e1 : v = .ref t) (e2 : H t = none) (e3 : H' = upd H t (.tup [x, y])) : ∃ G', Grow G H G' H' ∧ Rep C G' (.tup [d1, d2]) v := by
  subst e1; subst e3
  refine ⟨upd G t (.tup [x, y]), Grow.nuF s e2, .tup upd_same (.cons ?_ (.cons ?_ .nil))⟩
  · exact Rep.mono (Same.nu (Same.no s e2)) r1
  · exact Rep.mono (Same.nu (Same.no s e2)) r2
theorem wk_enum (rs : Reps C G ds vs) : Wk C (Ite K a) (enumD 0 ds) (fun H => SqL K H a vs) G := by
  refine ⟨YPair (fun i => some (.int (i : Nat))) (fun i => vs[i]?), by rw [enumD_len, Reps.length rs]; exact walk_enum, ?_⟩
  rintro i H x H' hi ⟨t, y, z, e1, e2, e3, e4, e5⟩ G2 s1 s2
  cases e4
  obtain ⟨d, h1, h2⟩ := Reps.getV rs e5
  obtain ⟨G', g, rp⟩ := pair_item (C := C) s2 (.int (i := i)) (Rep.mono s1 h2) e1 e2 e3
  refine ⟨_, G', ?_, g, rp⟩
  rw [enumD_get, h1]
  simp
theorem zipD_len : ∀ (ds es : List D), (zipD ds es).length = min ds.length es.length
  | [], _ => by simp [zipD]
  | _ :: _, [] => by simp [zipD]
  | _ :: ds, _ :: es => by simp only [zipD, List.length_cons, zipD_len ds es]; omega
theorem zipD_get : ∀ {ds es : List D} {i : Nat} {d e : D}, ds[i]? = some d → es[i]? = some e → (zipD ds es)[i]? = some (.tup [d, e])
  | [], _, _, _, _, h, _ => by simp at h
  | _ :: _, [], _, _, _, _, h => by simp at h
  | _ :: _, _ :: _, 0, _, _, h1, h2 => by simp at h1 h2; subst h1; subst h2; rfl
  | _ :: ds, _ :: es, i + 1, _, _, h1, h2 => by
    simp only [zipD, List.getElem?_cons_succ]
    exact zipD_get (by simpa using h1) (by simpa using h2)
theorem wk_zip (rs : Reps C G ds vs) (rt : Reps C G es ws) : Wk C (Itz K a b) (zipD ds es) (fun H => SqL K H a vs ∧ SqL K H b ws) G := by
  refine ⟨YPair (fun i => vs[i]?) (fun i => ws[i]?), walk_zip (by rw [zipD_len, Reps.length rs, Reps.length rt]), ?_⟩
  rintro i H x H' hi ⟨t, y, z, e1, e2, e3, e4, e5⟩ G2 s1 s2
  obtain ⟨d, h1, h2⟩ := Reps.getV rs e4
  obtain ⟨d', h1', h2'⟩ := Reps.getV rt e5
  obtain ⟨G', g, rp⟩ := pair_item (C := C) s2 (Rep.mono s1 h2) (Rep.mono s1 h2') e1 e2 e3
  exact ⟨_, G', zipD_get h1 h1', g, rp⟩
theorem SqL.mono {H' : Hp} (s : Same H H') (h : SqL K H a vs) : SqL K H' a vs := Same.seq s h
end
section
variable {X : Cx} {C : Ct} {e e2 tg : Expr} {es : List Expr} {ee ee2 : E} {ees : Es} {p pos tpos : Pos}
theorem gi_lst (hK : X.K = C.K) (he : PE X e (tE C ee)) : PI X tg e (tI C (.lst ee)) := by
  refine PI.imp (FJ.PI.or' (pi_list he) (FJ.PI.or' (pi_tup he) (pi_str he))) fun σ H R ⟨G, P, r, ds, hid, r', st, e, k⟩ => ?_
  simp only [evi] at e
  split at e
  · rename_i t r1 h1
    split at e
    · rename_i ds2 hs
      cases e
      have main : ∀ (K : V → Hp → Prop), (∀ G1 P1 H1 v, Sst C G1 H1 P1 r' σ → Stp G H P G1 H1 P1 → Rep C G1 t.toD v → (ee.pu = true → Same H H1) → K v H1) → tE C ee σ H K := fun K hk => tE_settle st h1 fun v1 G1 P1 H1 st1 s1 rp p1 => hk G1 P1 H1 v1 st1 s1 rp p1
      have fin : ∀ J G1 P1 H1 Gd, Sst C G1 H1 P1 r' σ → Stp G H P G1 H1 P1 → (ee.pu = true → Same H H1) → Wk C J ds Gd G1 → (∀ G2 H2, Same G1 G2 → Same G2 H2 → Gd H2) → R J H1 := fun J G1 P1 H1 Gd st1 s1 p1 wk gd =>
        k J G1 H1 P1 Gd st1 s1 p1 wk (gd G1 H1 (Same.refl _) st1.gh) (fun G2 H2 P2 s2 g2 => gd G2 H2 s2.gg g2) trivial
      generalize ht : t.toD = d at *
      cases d with
      | scr ns =>
        cases hs
        refine .inl (main _ fun G1 P1 H1 v st1 s1 rp p1 => ?_)
        cases rp with
        | scr h =>
          have h' := h
          rw [← hK] at h
          exact ⟨_, rfl, ⟨_, Same.seq st1.gh h⟩, fin _ G1 P1 H1 _ st1 s1 p1 (wk_list (ints_reps ns)) fun G2 H2 g1 g2 => Same.seq g2 (Same.seq g1 h)⟩
      | lst xs =>
        cases hs
        refine .inl (main _ fun G1 P1 H1 v st1 s1 rp p1 => ?_)
        cases rp with
        | lst h rs => exact ⟨_, rfl, ⟨_, SqL.of (st1.gh _ _ h)⟩, fin _ G1 P1 H1 _ st1 s1 p1 (wk_list rs) fun G2 H2 g1 g2 => SqL.of (g2 _ _ (g1 _ _ h))⟩
      | tup xs =>
        cases hs
        refine .inr (.inl (main _ fun G1 P1 H1 v st1 s1 rp p1 => ?_))
        cases rp with
        | tup h rs => exact ⟨_, rfl, ⟨_, SqT.of (st1.gh _ _ h)⟩, fin _ G1 P1 H1 _ st1 s1 p1 (wk_tup rs) fun G2 H2 g1 g2 => SqT.of (g2 _ _ (g1 _ _ h))⟩
      | str z =>
        cases hs
        refine .inr (.inr (main _ fun G1 P1 H1 v st1 s1 rp p1 => ?_))
        cases rp with
        | str => exact ⟨z, rfl, fin _ G1 P1 H1 _ st1 s1 p1 (wk_str z) fun _ _ _ _ => trivial⟩
      | _ => cases hs
    · cases e
  · rename_i i xs r1 h1
    split at e
    · rename_i xs' hr
      cases e
      refine .inl (tE_at st h1 fun v G1 H1 P1 A st1 s1 res hA hp => ?_)
      obtain ⟨_, B, o, hB⟩ := res
      obtain ⟨w, hw, ow⟩ := st1.sl i _ hr
      cases o with
      | ow o1 o2 o3 o4 =>
        cases ow with
        | ow q1 q2 q3 q4 =>
          have hp1 := hB _ ((o4 _).mpr rfl)
          have he := (q4 _).mp hp1
          subst he
          cases o3 with
          | lst rs =>
            have st2 : Sst C G1 H1 (Pno P1 i) (hideE (some (i, .ow (.lst ds))) r') σ := by
              refine ⟨by simp only [hideE]; rw [List.length_set]; exact st1.len, st1.gh, fun j t hj => ?_, fun j a hj => ?_, fun j k a h1 h2 => st1.dj j k a h1.2 h2.2⟩
              · simp only [hideE] at hj
                rcases getSet hj with ⟨_, z, _⟩ | ⟨hne, hj⟩
                · cases z
                · obtain ⟨u, h1, h2⟩ := st1.sl j t hj
                  refine ⟨u, h1, ?_⟩
                  have : Pno P1 i j = P1 j := by
                    funext a
                    exact propext ⟨fun h => h.2, fun h => ⟨hne.symm, h⟩⟩
                  rw [this]; exact h2
              · obtain ⟨t, ht⟩ := st1.pe j a hj.2
                exact ⟨t, by simp only [hideE]; rw [List.getElem?_set_ne (Ne.symm hj.1)]; exact ht⟩
            have hno : ∀ j, ¬ Pno P1 i j _ := fun j z => z.1 (st1.dj _ _ _ z.2 hp1)
            refine ⟨_, rfl, ⟨_, SqL.of o1⟩, k _ G1 H1 (Pno P1 i) _ st2 (s1.sub fun _ _ z => z.2) hp (wk_list rs) (SqL.of o1) (fun G2 H2 P2 s2 g2 => SqL.of (s2.kp _ _ o1 hno)) ?_⟩
            refine ⟨_, P1 i, hw, .ow o1 q2 (.lst rs) q4, fun j a ha z => z.1 (st1.dj _ _ _ z.2 ha), fun a ha => s1.pp i a ha⟩
    · cases e
  · cases e
theorem gi_lstf (hK : X.K = C.K) (he : PE X e (tE C ee)) : PI X tg e (tI C (.lstf ee)) := by
  refine PI.imp (FJ.PI.or' (pi_list he) (FJ.PI.or' (pi_tup he) (pi_str he))) fun σ H R ⟨G, P, r, ds, hid, r', st, e, k⟩ => ?_
  simp only [evi] at e
  split at e
  · rename_i x r1 h1
    split at e
    · rename_i ds2 hs
      cases e
      have main : ∀ (K : V → Hp → Prop), (∀ G1 P1 H1 v, Sst C G1 H1 P1 (useE false x r1) σ → Stp G H P G1 H1 P1 → Rep C G1 x.toD v → (ee.pu = true → Same H H1) → K v H1) → tE C ee σ H K := fun K hk => tE_settle st h1 fun v1 G1 P1 H1 st1 s1 rp p1 => hk G1 P1 H1 v1 st1 s1 rp p1
      have fin : ∀ J G1 P1 H1 Gd, Sst C G1 H1 P1 (useE false x r1) σ → Stp G H P G1 H1 P1 → (ee.pu = true → Same H H1) → Wk C J ds Gd G1 → (∀ G2 H2, Same G1 G2 → Same G2 H2 → Gd H2) → R J H1 := fun J G1 P1 H1 Gd st1 s1 p1 wk gd =>
        k J G1 H1 P1 Gd st1 s1 p1 wk (gd G1 H1 (Same.refl _) st1.gh) (fun G2 H2 P2 s2 g2 => gd G2 H2 s2.gg g2) trivial
      generalize ht : x.toD = d at *
      cases d with
      | scr ns =>
        cases hs
        refine .inl (main _ fun G1 P1 H1 v st1 s1 rp p1 => ?_)
        cases rp with
        | scr h =>
          have h' := h
          rw [← hK] at h
          exact ⟨_, rfl, ⟨_, Same.seq st1.gh h⟩, fin _ G1 P1 H1 _ st1 s1 p1 (wk_list (ints_reps ns)) fun G2 H2 g1 g2 => Same.seq g2 (Same.seq g1 h)⟩
      | lst xs =>
        cases hs
        refine .inl (main _ fun G1 P1 H1 v st1 s1 rp p1 => ?_)
        cases rp with
        | lst h rs => exact ⟨_, rfl, ⟨_, SqL.of (st1.gh _ _ h)⟩, fin _ G1 P1 H1 _ st1 s1 p1 (wk_list rs) fun G2 H2 g1 g2 => SqL.of (g2 _ _ (g1 _ _ h))⟩
      | tup xs =>
        cases hs
        refine .inr (.inl (main _ fun G1 P1 H1 v st1 s1 rp p1 => ?_))
        cases rp with
        | tup h rs => exact ⟨_, rfl, ⟨_, SqT.of (st1.gh _ _ h)⟩, fin _ G1 P1 H1 _ st1 s1 p1 (wk_tup rs) fun G2 H2 g1 g2 => SqT.of (g2 _ _ (g1 _ _ h))⟩
      | str z =>
        cases hs
        refine .inr (.inr (main _ fun G1 P1 H1 v st1 s1 rp p1 => ?_))
        cases rp with
        | str => exact ⟨z, rfl, fin _ G1 P1 H1 _ st1 s1 p1 (wk_str z) fun _ _ _ _ => trivial⟩
      | _ => cases hs
    · cases e
  · cases e
def Es.len : Es → Nat
  | .nil => 0
  | .cons _ es => es.len + 1
theorem evu_len : ∀ {es : Es} {r r' : Env} {ds : List D}, evu es r = .ok ds r' → ds.length = es.len
  | .nil, r, r', ds, h => by simp only [evu] at h; cases h; rfl
  | .cons e es, r, r', ds, h => by
    simp only [evu] at h
    split at h
    · split at h
      · rename_i ds2 r2 h2
        cases h
        simp [Es.len, evu_len h2]
      · cases h
    · cases h
theorem gi_rng1 (hg : Gl X "range") (hm : X.mg "range" = none) (hn : notStar e = true) (he : PE X e (tE C ee)) : PI X tg (.Call (.Name "range" p) [e] [] pos) (tI C (.rng (.cons ee .nil))) := by
  refine PI.imp (pi_range1 hg hm (gu_cons hn he gu_nil) (star_cons hn)) fun σ H R ⟨G, P, r, ds, hid, r', st, e, k⟩ => ?_
  simp only [evi] at e
  split at e
  · rename_i xs r1 h1
    split at e
    · rename_i ds2 hs
      cases e
      have hl := evu_len h1
      refine ⟨G, P, r, xs, _, st, h1, fun vs G1 H1 P1 st1 s1 ps p1 => ?_⟩
      simp only [rngD] at hs
      split at hs
      · split at hs
        · rename_i n hn
          cases hs
          obtain ⟨v, rfl, u⟩ := one_of ps
          cases u.int
          refine ⟨n, rfl, by omega, by omega, k _ G1 H1 P1 (fun _ => True) st1 s1 p1 ?_ trivial (fun _ _ _ _ _ => trivial) trivial⟩
          have w := wk_range (C := C) (G := G1) (lo := 0) (n := n.toNat)
          simpa using w
        · cases hs
      · simp [Es.len] at hl
      · cases hs
    · cases e
  · cases e
theorem gi_rng2 (hg : Gl X "range") (hm : X.mg "range" = none) (hn : notStar e = true) (hn2 : notStar e2 = true) (he : PE X e (tE C ee)) (he2 : PE X e2 (tE C ee2)) : PI X tg (.Call (.Name "range" p) [e, e2] [] pos) (tI C (.rng (.cons ee (.cons ee2 .nil)))) := by
  refine PI.imp (pi_range2 hg hm (gu_cons hn he (gu_cons hn2 he2 gu_nil)) (by rw [star_cons hn, star_cons hn2]; rfl) (by rw [star_cons hn2]; rfl)) fun σ H R ⟨G, P, r, ds, hid, r', st, e, k⟩ => ?_
  simp only [evi] at e
  split at e
  · rename_i xs r1 h1
    split at e
    · rename_i ds2 hs
      cases e
      have hl := evu_len h1
      refine ⟨G, P, r, xs, _, st, h1, fun vs G1 H1 P1 st1 s1 ps p1 => ?_⟩
      simp only [rngD] at hs
      split at hs
      · simp [Es.len] at hl
      · split at hs
        · rename_i n m hn
          cases hs
          obtain ⟨v, w, rfl, u, u2⟩ := two_of ps
          cases u.int; cases u2.int
          exact ⟨n, m, rfl, ⟨by omega, by omega, by omega, by omega⟩, k _ G1 H1 P1 (fun _ => True) st1 s1 p1 wk_range trivial (fun _ _ _ _ _ => trivial) trivial⟩
        · cases hs
      · cases hs
    · cases e
  · cases e
theorem gi_enu {elts : List Expr} {kk : Nat} (hK : X.K = C.K) (hg : Gl X "enumerate") (hm : X.mg "enumerate" = none) (hn : notStar e = true) (he : PE X e (tE C ee)) : PI X (.Tuple elts kk tpos) (.Call (.Name "enumerate" p) [e] [] pos) (tI C (.enu ee)) := by
  refine PI.imp (pi_enum hg hm (pa_cons he pa_nil (star_cons hn)) (star_cons hn)) fun σ H R ⟨G, P, r, ds, hid, r', st, e, k⟩ => ?_
  simp only [evi] at e
  split at e
  · rename_i x r1 h1
    split at e
    · rename_i xs hx
      cases e
      refine tE_settle st h1 fun v1 G1 P1 H1 st1 s1 rp p1 => ?_
      rw [hx] at rp
      cases rp with
      | lst h rs => exact ⟨_, _, rfl, SqL.of (st1.gh _ _ h), k _ G1 H1 P1 _ st1 s1 p1 (wk_enum rs) (SqL.of (st1.gh _ _ h)) (fun G2 H2 P2 s2 g2 => SqL.of (g2 _ _ (s2.gg _ _ h))) trivial⟩
    · cases e
  · cases e
theorem gi_zip {elts : List Expr} {kk : Nat} (hK : X.K = C.K) (hg : Gl X "zip") (hm : X.mg "zip" = none) (hn : notStar e = true) (hn2 : notStar e2 = true) (he : PE X e (tE C ee)) (he2 : PE X e2 (tE C ee2)) :
    PI X (.Tuple elts kk tpos) (.Call (.Name "zip" p) [e, e2] [] pos) (tI C (.zip ee ee2)) := by
  refine PI.imp (pi_zip hg hm (pa_cons he (pa_cons he2 pa_nil (star_cons hn2)) (star_cons hn)) (star_cons hn) (star_no (by simp [noStars, hn2]))) fun σ H R ⟨G, P, r, ds, hid, r', st, e, k⟩ => ?_
  simp only [evi] at e
  split at e
  · rename_i x r1 h1
    split at e
    · rename_i y r2 h2
      split at e
      · rename_i xs ys hx hy
        cases e
        refine tE_settle st h1 fun v1 G1 P1 H1 st1 s1 rp p1 => ?_
        refine tE_settle st1 h2 fun v2 G2 P2 H2 st2 s2 rp2 p2 => ?_
        rw [hx] at rp
        rw [hy] at rp2
        cases rp with
        | lst h rs =>
          cases rp2 with
          | lst h' rs' =>
            have hh := s2.gg _ _ h
            exact ⟨_, _, _, _, rfl, SqL.of (st2.gh _ _ hh), SqL.of (st2.gh _ _ h'), k _ G2 H2 P2 _ st2 (s1.trans s2) (fun h => (p1 (andT h).1).trans (p2 (andT h).2)) (wk_zip (Reps.mono s2.gg rs) rs') ⟨SqL.of (st2.gh _ _ hh), SqL.of (st2.gh _ _ h')⟩
              (fun G3 H3 P3 s3 g3 => ⟨SqL.of (g3 _ _ (s3.gg _ _ hh)), SqL.of (g3 _ _ (s3.gg _ _ h'))⟩) trivial⟩
      · cases e
    · cases e
  · cases e
end

/-! ### comprehensions -/
def tCd (C : Ct) (cd : Oe) : TT := fun σ H Q => ∃ G P r b r', Sst C G H P r σ ∧ evc cd r = some (b, r') ∧ ∀ G' H' P', Sst C G' H' P' r' σ → Stp G H P G' H' P' → (cd.pu = true → Same H H') → Q b H'
section
variable {X : Cx} {C : Ct} {e e2 tg iter elt i : Expr} {ifs : List Expr} {ee ei : E} {it : FJ.It} {cd : Oe} {tgt : Tg} {p pos tpos : Pos}
theorem gc_no : PTs X [] (tCd C .no) := by
  refine PTs.imp pts_nil fun σ H Q ⟨G, P, r, b, r', st, e, k⟩ => ?_
  simp only [evc] at e
  cases e
  exact k G H P st (Stp.refl ..) fun _ => Same.refl _
theorem gc_so (h : PT X i (tT C ei)) : PTs X [i] (tCd C (.so ei)) := by
  refine PTs.imp (pts_one h) fun σ H Q ⟨G, P, r, b, r', st, e, k⟩ => ?_
  simp only [evc] at e
  exact ⟨G, P, r, b, r', st, e, k⟩
theorem lc_read {σ : St} {H : Hp} {Q : VK} (q : tE C (.comp ee tgt it cd) σ H Q) : tLc (tI C it) (tG C tgt) (tCd C cd) (tE C ee) tgt.slots σ H Q := by
  obtain ⟨G, P, r, y, r', st, e, k⟩ := q
  simp only [ev] at e
  split at e
  · rename_i ds hid r0 hev
    split at e
    · rename_i hst
      split at e
      · rename_i dsf rf hcl
        cases e
        refine ⟨G, P, r, ds, hid, r0, st, hev, fun J G1 H1 P1 Gd st1 s1 p1 wk g1 gst hdn D hD => ?_⟩
        obtain ⟨Y, w, items⟩ := wk
        have hGD : G1 D = none := Same.no st1.gh hD
        have hPD : ∀ j, ¬ P1 j D := fun j hj => (st1.dom hj).2 hD
        refine lc_it w (fun i H' => ∃ G' P' r' accD acc, Sst C G' H' P' r' (wipe σ tgt.slots) ∧ Stp G1 H1 P1 G' H' P' ∧ (ee.pu = true → cd.pu = true → Same H1 H') ∧ H' D = some (.lst acc) ∧ G' D = none ∧ (∀ j, ¬ P' j D) ∧ Reps C G' accD acc ∧
          compL (fun r => evc cd r) (fun r => ev ee r) tgt (ds.drop i) r' accD = .ok dsf rf) ?_ ?_ ?_ ?_
        · refine ⟨G1, Pout P1 tgt.slots, _, [], [], (st1.wipe tgt.slots).updD hGD fun j z => hPD j z.2, ((Stp.refl G1 H1 P1).sub fun _ _ z => z.2).updN hD, fun _ _ => Same.nu hD, upd_same, hGD, fun j z => hPD j z.2, .nil, by rw [List.drop_zero]; exact hcl⟩
        · rintro i H' _ ⟨G', P', r', accD, acc, st', s', _, _, _, _, _, _⟩
          exact gst G' H' P' s' st'.gh
        · rintro i x H2 H3 hi ⟨G', P', r2, accD, acc, st', s', pu', hL, hGL, hPL, rs, hc⟩ hY
          obtain ⟨d, G3, hd, gr, rp⟩ := items i _ _ _ hi hY G' s'.gg st'.gh
          rw [List.drop_eq_getElem_cons hi, (List.getElem?_eq_some_iff.mp hd).2] at hc
          simp only [compL] at hc
          cases hb : tgt.bind d r2 with
          | none => rw [hb] at hc; cases hc
          | some r3 =>
            rw [hb] at hc
            simp only at hc
            have stg := st'.grow gr
            have sg := s'.trans (Stp.grow gr)
            have hG3 : G3 D = none := by
              by_cases hz : G3 D = none
              · exact hz
              · have := gr.nw D hGL hz; rw [hL] at this; cases this
            refine ⟨G3, P', r2, d, r3, stg, rp, hb, fun σ2 P2 st2 hsub hfr => ⟨?_, ?_⟩⟩
            · have := hfr.wipe
              rw [this]
              apply List.ext_getElem?
              intro j
              by_cases hj : j ∈ tgt.slots
              · rw [wipe_in hj, wipe_in hj, wipe_length]
              · rw [wipe_out hj]
            have hwi : wipe σ2 tgt.slots = wipe σ tgt.slots := by
              rw [hfr.wipe]
              apply List.ext_getElem?
              intro j
              by_cases hj : j ∈ tgt.slots
              · rw [wipe_in hj, wipe_in hj, wipe_length]
              · rw [wipe_out hj]
            have s2 : Stp G1 H1 P1 G3 H3 P2 := sg.sub hsub
            have hL3 := gr.hh _ _ hL
            have hP2 : ∀ j, ¬ P2 j D := fun j z => hPL j (hsub j D z)
            cases hcf : evc cd r3 with
            | none => rw [hcf] at hc; cases hc
            | some q =>
              obtain ⟨b, r4⟩ := q
              rw [hcf] at hc
              refine ⟨G3, P2, r3, b, r4, st2, hcf, fun G4 H4 P4 st4 s4 p4 => ?_⟩
              obtain ⟨hL4, hG4, hP4⟩ := s4.stays hL3 hP2 hG3
              cases b with
              | false =>
                simp only at hc
                refine ⟨G4, Pout P4 tgt.slots, _, accD, acc, by rw [← hwi]; exact st4.wipe _, (s2.trans s4).sub fun _ _ z => z.2, fun h1 h2 => ((pu' h1 h2).trans gr.hh).trans (p4 h2), hL4, hG4, fun j z => hP4 j z.2, Reps.mono (gr.gg.trans s4.gg) rs, hc⟩
              | true =>
                simp only at hc
                cases hef : ev ee r4 with
                | stuck => rw [hef] at hc; cases hc
                | ok y r5 =>
                  rw [hef] at hc
                  simp only at hc
                  split at hc
                  · rename_i hlen
                    show tE C ee σ2 H4 _
                    refine tE_settle st4 hef fun v5 G5 P5 H5 st5 s5 rp5 p5 => ?_
                    obtain ⟨hL5, hG5, hP5⟩ := s5.stays hL4 hP4 hG4
                    have rs5 := Reps.mono ((gr.gg.trans s4.gg).trans s5.gg) rs
                    refine ⟨acc, hL5, by rw [← Reps.length rs]; exact hlen, G5, Pout P5 tgt.slots, _, accD ++ [y.toD], acc ++ [v5], ?_, ?_, ?_, upd_same, hG5, fun j z => hP5 j z.2, Reps.app rs5 (Reps.one rp5), hc⟩
                    · rw [← hwi]
                      exact (st5.wipe _).updD hG5 fun j z => hP5 j z.2
                    · exact (((s2.trans s4).trans s5).sub fun _ _ z => z.2).updN hD
                    · intro h1 h2
                      have := (((pu' h1 h2).trans gr.hh).trans (p4 h2)).trans (p5 h1)
                      exact fun a u e => by rw [upd_ne (ne_of_none e hD)]; exact this a u e
                  · cases hc
        · rintro H' ⟨G', P', r2, accD, acc, st', s', pu', hL, hGL, hPL, rs, hc⟩
          rw [List.drop_length] at hc
          simp only [compL] at hc
          cases hc
          have sb := Sst.back st1 hst st' s'
          obtain ⟨P3, st3, hP3⟩ := sb.show (s'.sub fun _ _ z => z.2) hdn fun _ _ _ => rfl
          have nD : ∀ j, ¬ P3 j D := fun j z => (hP3 j D z).elim (fun z => hPL j z.2) fun z => z.1 hD
          refine k (.ref D) G' H' P3 (fun a => a = D) st3 ((s1.trans s').setP fun j a z => ?_) ⟨.ow hL hGL (.lst rs) fun _ => Iff.rfl, fun j a z => by rw [z]; exact nD j⟩ (fun a z => .inr (by rw [z]; exact s1.ld D hD)) fun h => ?_
          · exact (hP3 j a z).elim (fun z => .inl z.2) fun z => .inr z.2
          · exact (p1 (andT (andT h).2).1).trans (pu' (andT h).1 (andT (andT h).2).2)
      · cases e
    · cases e
  · cases e
theorem ge_comp {scope : Scope} {own : List (Str × Nat)} (hc : X.calm = true) (hN : X.N.Nodup) (hi : PI X tg iter (tI C it)) (ok : BlkOk X.N X.env.scope scope own) (ho : own.map (·.2) = tgt.slots)
    (hg : ∀ (s : Shared) (H : Hp) (Ca : Addr) (cl : List (Str × Addr)) (fp : List Addr), PG (X.blk s H scope (compEnvC scope cl Ca X.env) fp) tg (tG C tgt))
    (ht : ∀ (s : Shared) (H : Hp) (Ca : Addr) (cl : List (Str × Addr)) (fp : List Addr), PTs (X.blk s H scope (compEnvC scope cl Ca X.env) fp) ifs (tCd C cd))
    (he : ∀ (s : Shared) (H : Hp) (Ca : Addr) (cl : List (Str × Addr)) (fp : List Addr), PE (X.blk s H scope (compEnvC scope cl Ca X.env) fp) elt (tE C ee)) (hs : ∀ x, foldedSetIterable iter X.env x = pure x) :
    PE X (.ListComp elt [⟨tg, iter, ifs, 0⟩] scope pos) (tE C (.comp ee tgt it cd)) :=
  PE.imp (pe_lc hc hN hi ok hg ht he hs) fun σ H Q q => by rw [ho]; exact lc_read q
end
end FJ

/-! Statements. -/
namespace FJ
open PySem L2

def OutOk (C : Ct) (D : Ends) (G H : Hp) (P : Nat → Addr → Prop) (σ : St) (as : List Nat) : O → Prop
  | .nx r' => ∀ σ' G' H' P', Sst C G' H' P' r' σ' → Stp G H P G' H' P' → Fr as σ σ' → D.nx σ' H'
  | .bk r' => ∀ σ' G' H' P', Sst C G' H' P' r' σ' → Stp G H P G' H' P' → Fr as σ σ' → D.bk σ' H'
  | .ct r' => ∀ σ' G' H' P', Sst C G' H' P' r' σ' → Stp G H P G' H' P' → Fr as σ σ' → D.ct σ' H'
  | .rt t r' => ∀ v σ' G' H' P' A, Sst C G' H' P' r' σ' → Stp G H P G' H' P' → Own C G' H' t v A → (∀ i a, A a → ¬ P' i a) → (∀ a, A a → (∃ j, P j a) ∨ H a = none) → Fr as σ σ' → D.rt v H'
  | .stuck => False
def tS (C : Ct) (s : S) : TS := fun D σ H => ∃ G P r, Sst C G H P r σ ∧ OutOk C D G H P σ s.asgs (evS s r)
section
variable {C : Ct} {G H G' H' G1 H1 : Hp} {P P' P1 P2 : Nat → Addr → Prop} {r r' : Env} {σ σ' : St} {A B : Addr → Prop} {x : Val} {v : V} {t : T} {d : D} {Q : VK} {as bs : List Nat} {E E' : Ends} {o : O}
theorem Fr.mono (f : Fr as σ σ') (h : ∀ i, i ∈ as → i ∈ bs) : Fr bs σ σ' := ⟨f.1, fun i hi => f.2 i fun z => hi (h i z)⟩
theorem Fr.comp {σ'' : St} (a : Fr as σ σ') (b : Fr as σ' σ'') : Fr as σ σ'' := ⟨b.1.trans a.1, fun i h => (b.2 i h).trans (a.2 i h)⟩
theorem Stp.base (s : Stp G H P G' H' P') (h : (∃ j, P' j a) ∨ H' a = none) : (∃ j, P j a) ∨ H a = none := h.elim (fun ⟨j, hj⟩ => s.pp j a hj) fun z => .inr (s.ld a z)
theorem OutOk.step (s : Stp G H P G1 H1 P1) {σ1 : St} (f : Fr bs σ σ1) (hb : ∀ i, i ∈ bs → i ∈ as) {cs : List Nat} (hc : ∀ i, i ∈ cs → i ∈ as) (h : OutOk C E G H P σ as o) : OutOk C E G1 H1 P1 σ1 cs o := by
  cases o with
  | nx r => exact fun σ' G' H' P' st' s' f' => h σ' G' H' P' st' (s.trans s') ((f.mono hb).comp (f'.mono hc))
  | bk r => exact fun σ' G' H' P' st' s' f' => h σ' G' H' P' st' (s.trans s') ((f.mono hb).comp (f'.mono hc))
  | ct r => exact fun σ' G' H' P' st' s' f' => h σ' G' H' P' st' (s.trans s') ((f.mono hb).comp (f'.mono hc))
  | rt t r => exact fun v σ' G' H' P' A st' s' o' n' b' f' => h v σ' G' H' P' A st' (s.trans s') o' n' (fun a ha => s.base (b' a ha)) ((f.mono hb).comp (f'.mono hc))
  | stuck => exact h
/-- a state within a block goes on -/
theorem tS_at {s : S} (st : Sst C G H P r σ) (h : OutOk C E G H P σ s.asgs (evS s r)) : tS C s E σ H := ⟨G, P, r, st, h⟩
end

section
variable {X : Cx} {C : Ct} {e e2 c tg iter : Expr} {ee ec ek : E} {it : FJ.It} {tgt : Tg} {p pos tpos : Pos} {a b : List Stmt} {sa sb : S} {st1 : Stmt}
theorem gs_pass : PS X (.Pass pos) (tS C .pass) := PS.imp ps_pass fun D σ H ⟨G, P, r, st, k⟩ => k σ G H P st (Stp.refl ..) Fr.refl
theorem gss_nil : PSs X [] (tS C .pass) := PSs.imp pss_nil fun D σ H ⟨G, P, r, st, k⟩ => k σ G H P st (Stp.refl ..) Fr.refl
theorem gs_brk : PS X (.Break pos) (tS C .brk) := PS.imp ps_break fun D σ H ⟨G, P, r, st, k⟩ => k σ G H P st (Stp.refl ..) Fr.refl
theorem gs_cont : PS X (.Continue pos) (tS C .cont) := PS.imp ps_continue fun D σ H ⟨G, P, r, st, k⟩ => k σ G H P st (Stp.refl ..) Fr.refl
theorem gs_retN : PS X (.Return none pos) (tS C .retN) := PS.imp ps_retN fun D σ H ⟨G, P, r, st, k⟩ => k .non σ G H P (fun _ => False) st (Stp.refl ..) (.fr .non fun _ z => z) (fun _ _ z => z.elim) (fun _ z => z.elim) Fr.refl
theorem gss_one (h : PS X st1 (tS C sa)) : PSs X [st1] (tS C sa) := pss_one h
theorem tS_seq0 {sa sb : S} {D : Ends} {σ : St} {H : Hp} (q : tS C (.seq sa sb) D σ H) : tS C sa { D with nx := tS C sb D } σ H := by
  obtain ⟨G, P, r, st, k⟩ := q
  refine tS_at st ?_
  simp only [evS] at k
  have k' : OutOk C D G H P σ (sa.asgs ++ sb.asgs) ((evS sa r).seq fun r => evS sb r) := k
  have hl : ∀ i, i ∈ sa.asgs → i ∈ sa.asgs ++ sb.asgs := fun i h => List.mem_append_left _ h
  cases hs : evS sa r with
  | nx r1 =>
    rw [hs] at k'
    exact fun σ' G' H' P' st' s' f' => tS_at st' (k'.step s' f' hl fun i h => List.mem_append_right _ h)
  | bk r1 =>
    rw [hs] at k'
    exact fun σ' G' H' P' st' s' f' => k' σ' G' H' P' st' s' (f'.mono hl)
  | ct r1 =>
    rw [hs] at k'
    exact fun σ' G' H' P' st' s' f' => k' σ' G' H' P' st' s' (f'.mono hl)
  | rt t r1 =>
    rw [hs] at k'
    exact fun v σ' G' H' P' A st' s' o n b f' => k' v σ' G' H' P' A st' s' o n b (f'.mono hl)
  | stuck => rw [hs] at k'; exact k'
theorem gss_cons (h : PS X st1 (tS C sa)) (h2 : PSs X b (tS C sb)) : PSs X (st1 :: b) (tS C (.seq sa sb)) := PSs.imp (pss_cons h h2) fun D σ H q => tS_seq0 q
theorem gs_expr (hs : swapsWith e none pos.line X.env = pure false) (he : PE X e (tE C ee)) : PS X (.Expr e pos) (tS C (.expr ee)) := by
  refine PS.imp (ps_expr he hs) fun D σ H ⟨G, P, r, st, k⟩ => ?_
  simp only [evS] at k
  split at k
  · rename_i x r1 h1
    exact tE_at st h1 fun v G' H' P' A st' s' _ _ _ => k σ G' H' P' st' s' Fr.refl
  · exact k.elim
theorem gs_if (hc : PT X c (tT C ec)) (ha : PSs X a (tS C sa)) (hb : PSs X b (tS C sb)) : PS X (.If c a b pos) (tS C (.ife ec sa sb)) := by
  refine PS.imp (ps_if hc ha hb) fun D σ H ⟨G, P, r, st, k⟩ => ?_
  simp only [evS] at k
  split at k
  · rename_i r1 h1
    exact ⟨G, P, r, true, r1, st, h1, fun G1 H1 P1 st1 s1 _ => tS_at st1 (k.step s1 Fr.refl (fun i h => h) fun i h => by simp only [S.asgs]; exact List.mem_append_left _ h)⟩
  · rename_i r1 h1
    exact ⟨G, P, r, false, r1, st, h1, fun G1 H1 P1 st1 s1 _ => tS_at st1 (k.step s1 Fr.refl (fun i h => h) fun i h => by simp only [S.asgs]; exact List.mem_append_right _ h)⟩
  · exact k.elim
theorem gs_ret (he : PE X e (tE C ee)) : PS X (.Return (some e) pos) (tS C (.ret ee)) := by
  refine PS.imp (ps_ret he) fun D σ H ⟨G, P, r, st, k⟩ => ?_
  simp only [evS] at k
  split at k
  · rename_i t r1 h1
    exact tE_at st h1 fun v G' H' P' A st' s' res hA _ => k v σ G' H' P' A st' s' res.1 res.2 hA Fr.refl
  · rename_i i t r1 h1
    exact tE_settle st h1 fun v G' P' H' st' s' rp _ => k v σ G' H' P' (fun _ => False) st' s' (.fr rp fun _ z => z) (fun _ _ z => z.elim) (fun _ z => z.elim) Fr.refl
  · exact k.elim
theorem gs_retv {i : Nat} (he : PE X e (tVar i)) : PS X (.Return (some e) pos) (tS C (.retv i)) := by
  refine PS.imp (ps_ret he) fun D σ H ⟨G, P, r, st, k⟩ => ?_
  simp only [evS] at k
  split at k
  · rename_i t ht
    obtain ⟨v, h1, h2⟩ := st.sl i t ht
    refine ⟨v, h1, k v σ G H (Pno P i) (P i) ⟨by rw [List.length_set]; exact st.len, st.gh, fun j t hj => ?_, fun j a hj => ?_, fun j k a h1 h2 => st.dj j k a h1.2 h2.2⟩ ((Stp.refl ..).sub fun _ _ z => z.2) h2 (fun j a ha z => z.1 (st.dj _ _ _ z.2 ha)) (fun a ha => .inl ⟨i, ha⟩) Fr.refl⟩
    · rcases getSet hj with ⟨_, z, _⟩ | ⟨hne, hj⟩
      · cases z
      · obtain ⟨u, h1, h2⟩ := st.sl j t hj
        refine ⟨u, h1, ?_⟩
        have : Pno P i j = P j := by
          funext a
          exact propext ⟨fun h => h.2, fun h => ⟨hne.symm, h⟩⟩
        rw [this]; exact h2
    · obtain ⟨t, ht⟩ := st.pe j a hj.2
      exact ⟨t, by rw [List.getElem?_set_ne (Ne.symm hj.1)]; exact ht⟩
  · exact k.elim
theorem mem1 {i : Nat} : ∀ j, j ∈ (Tg.name i).slots → j ∈ [i] := fun j h => by simpa [Tg.slots] using h
/-- name = e -/
theorem set_read {i : Nat} {D : Ends} {σ : St} {H : Hp} (q : tS C (.asg (.name i) ee) D σ H) : tAsg (tE C ee) (gName i) D σ H := by
  obtain ⟨G, P, r, st, k⟩ := q
  simp only [evS] at k
  split at k
  · rename_i x r1 h1
    split at k
    · rename_i r2 h2
      cases x with
      | v t =>
        simp only [asgE] at h2
        split at h2
        · rename_i o ho
          cases h2
          refine tE_at st h1 fun v G1 H1 P1 A st1 s1 res hA _ => ?_
          obtain ⟨ow, n⟩ := res
          refine k _ G1 H1 (Pput P1 i A) (st1.put ow (fun j a ha _ => n j a ha) (by rw [← st1.len]; exact ltOf ho)) (s1.setP fun j a z => ?_) (by simp only [S.asgs, Tg.slots]; exact Fr.set)
          exact z.elim (fun z => .inr (hA a z.2)) fun z => .inl z.2
        · cases h2
      | b j t =>
        simp only [asgE, Tg.bind] at h2
        cases h2
        refine tE_settle st h1 fun v G1 P1 H1 st1 s1 rp _ => ?_
        exact k _ G1 H1 _ (st1.putF i rp) (s1.sub Pput_sub) (by simp only [S.asgs, Tg.slots]; exact Fr.set)
    · exact k.elim
  · exact k.elim
/-- a target of any form -/
theorem asg_read {D : Ends} {σ : St} {H : Hp} (hn : ∀ i, tgt ≠ .name i) (q : tS C (.asg tgt ee) D σ H) : tAsg (tE C ee) (tG C tgt) D σ H := by
  obtain ⟨G, P, r, st, k⟩ := q
  simp only [evS] at k
  split at k
  · rename_i x r1 h1
    split at k
    · rename_i r2 h2
      have h3 : tgt.bind x.toD (useE false x r1) = some r2 := by
        unfold asgE at h2
        split at h2
        · exact (hn _ rfl).elim
        · exact h2
      refine tE_settle st h1 fun v G1 P1 H1 st1 s1 rp _ => ?_
      exact ⟨G1, P1, _, _, r2, st1, rp, h3, fun σ' P' st' hs f => k σ' G1 H1 P' st' (s1.sub hs) (by simp only [S.asgs]; exact f)⟩
    · exact k.elim
  · exact k.elim
theorem gs_set {i : Nat} {x : Str} {pos' : Pos} (hN : X.N.Nodup) (hi : X.N[i]? = some x) (hx : Loc X.env.scope x) (hf : X.fn x = true ∨ X.env.scope.names.lookup x = some .local) (he : PE X e (tE C ee)) (hs : swapsWith e (some (.Name x pos')) pos.line X.env = pure false) :
    PS X (.Assign [.Name x pos'] e pos) (tS C (.asg (.name i) ee)) := PS.imp (ps_set hN hi hx he hs hf) fun D σ H q => set_read q
theorem gs_asg {ts : List Expr} {kk : Nat} (hn : ∀ i, tgt ≠ .name i) (he : PE X e (tE C ee)) (hg : PG X (.Tuple ts kk tpos) (tG C tgt)) (h1 : isTup e = false) (h2 : isComp e = false) : PS X (.Assign [.Tuple ts kk tpos] e pos) (tS C (.asg tgt ee)) := by
  refine PS.imp (ps_asg he hg ?_ ?_ rfl) fun D σ H q => asg_read hn q
  · cases e <;> first | rfl | (simp [isComp] at h2)
  · cases e <;> first | rfl | (simp [isTup] at h1)
theorem gs_par {i j : Nat} {x y : Str} {a b : Expr} {ea eb : E} {px py pt : Pos} {kt k2 : Nat} {pt2 : Pos} (hc : X.calm = true) (hN : X.N.Nodup) (hi : X.N[i]? = some x) (hj : X.N[j]? = some y) (hij : i ≠ j)
    (hx : X.env.scope.names.lookup x = some .local) (hy : X.env.scope.names.lookup y = some .local) (hna : notStar a = true) (hnb : notStar b = true) (ha : PE X a (tE C ea)) (hb : PE X b (tE C eb))
    (hw : swappedStores [.Tuple [.Name x px, .Name y py] kt pt] (.Tuple [a, b] k2 pt2) X.env = pure (some [x, y])) :
    PS X (.Assign [.Tuple [.Name x px, .Name y py] kt pt] (.Tuple [a, b] k2 pt2) pos) (tS C (.asg (.tup [.name i, .name j]) (.tup (.cons ea (.cons eb .nil))))) := by
  refine PS.imp (ps_par hc hN hi hj hij hx hy (ga_cons hna ha (ga_cons hnb hb ga_nil)) hw) fun D σ H ⟨G, P, r, st, k⟩ => ?_
  simp only [evS, ev] at k
  split at k
  · rename_i x1 r1 h1
    split at h1
    · rename_i ds r2 h2
      split at h1
      · cases h1
        split at k
        · rename_i r3 h3
          refine ⟨G, P, r, ds, _, st, h2, fun vs G1 H1 P1 st1 s1 rs p1 => ?_⟩
          simp only [asgE, Val.toD, T.toD, useE, Tg.bind] at h3
          cases rs with
          | nil => simp only [Tg.binds] at h3; cases h3
          | cons r1 rs =>
            cases rs with
            | nil => simp only [Tg.binds, Tg.bind] at h3; cases h3
            | cons r2 rs =>
              cases rs with
              | cons _ _ => simp only [Tg.binds, Tg.bind] at h3; cases h3
              | nil =>
                simp only [Tg.binds, Tg.bind] at h3
                cases h3
                refine ⟨_, _, rfl, k _ G1 H1 _ ((st1.putF i r1).putF j r2) (s1.sub fun j a z => Pput_sub _ _ (Pput_sub _ _ z)) ?_⟩
                simp only [S.asgs, Tg.slots, Tg.slotss]
                exact (Fr.set (i := i)).trans ((Fr.set (i := j)).mono (by simp))
        · exact k.elim
      · cases h1
    · cases h1
  · exact k.elim
theorem gs_aug {i : Nat} {x : Str} {o : Operator} {bo : Bop} {pos' : Pos} (ho : o = opOf bo) (hN : X.N.Nodup) (hi : X.N[i]? = some x) (hx : Loc X.env.scope x) (hf : X.fn x = true ∨ X.env.scope.names.lookup x = some .local) (he : PE X e (tE C ee)) (hb : bo = .add ∨ bo = .sub) :
    PS X (.AugAssign (.Name x pos') o e pos) (tS C (.aug i bo ee)) := by
  subst ho
  rcases hb with rfl | rfl
  · refine PS.imp (ps_aug hN hi hx he ip_add hf) fun D σ H ⟨G, P, r, st, k⟩ => ?_
    simp only [evS] at k
    split at k
    · rename_i n hn
      split at k
      · rename_i y r1 h1
        split at k
        · rename_i m _ hm
          obtain ⟨v, h2, h3⟩ := st.sl i _ hn
          cases h3 with
          | fr rp _ =>
            cases rp.inti
            refine ⟨_, h2, tE_settle st h1 fun w G1 P1 H1 st1 s1 rp1 _ => ?_⟩
            rw [hm] at rp1
            cases rp1.inti
            exact ⟨n, m, rfl, rfl, k _ G1 H1 _ (st1.putF i .int) (s1.sub Pput_sub) (by simp only [S.asgs]; exact Fr.set)⟩
        · exact Bop.noConfusion (by assumption : Bop.add = Bop.sub)
        · exact k.elim
      · exact k.elim
    · exact k.elim
  · refine PS.imp (ps_aug hN hi hx he ip_sub hf) fun D σ H ⟨G, P, r, st, k⟩ => ?_
    simp only [evS] at k
    split at k
    · rename_i n hn
      split at k
      · rename_i y r1 h1
        split at k
        · exact Bop.noConfusion (by assumption : Bop.sub = Bop.add)
        · rename_i m _ hm
          obtain ⟨v, h2, h3⟩ := st.sl i _ hn
          cases h3 with
          | fr rp _ =>
            cases rp.inti
            refine ⟨_, h2, tE_settle st h1 fun w G1 P1 H1 st1 s1 rp1 _ => ?_⟩
            rw [hm] at rp1
            cases rp1.inti
            exact ⟨n, m, rfl, rfl, k _ G1 H1 _ (st1.putF i .int) (s1.sub Pput_sub) (by simp only [S.asgs]; exact Fr.set)⟩
        · exact k.elim
      · exact k.elim
    · exact k.elim
/-! ### loops -/
theorem gs_for (hp : PassesOwn (model X.prog X.w) X.A X.env X.xe) (hc : X.calm = true) (hi : PI X tg iter (tI C it)) (hg : PG X tg (tG C tgt)) (hb : PSs X b (tS C sb)) (hs : ∀ x, foldedSetIterable iter X.env x = pure x) : PS X (.For tg iter b [] pos) (tS C (.for tgt it sb)) := by
  refine PS.imp (ps_for hp hc hi hg hb hs) fun D σ H ⟨G, P, r, st, k⟩ => ?_
  have k' : OutOk C D G H P σ (tgt.slots ++ sb.asgs) (evS (.for tgt it sb) r) := k
  clear k
  simp only [evS] at k'
  split at k'
  · rename_i ds hid r0 hev
    refine ⟨G, P, r, ds, hid, r0, st, hev, fun J G1 H1 P1 Gd st1 s1 p1 wk g1 gst hdn => ?_⟩
    obtain ⟨Y, w, items⟩ := wk
    generalize hof : forL (fun r => evS sb r) tgt ds (hideE hid r0) = of at k'
    have fin : ∀ r4, of = .nx r4 → ∀ σ' G' H' P', Sst C G' H' P' r4 σ' → Stp G1 H1 P1 G' H' P' → Fr (tgt.slots ++ sb.asgs) σ σ' → D.nx σ' H' := by
      intro r4 e4 σ' G' H' P' st' s' f'
      rw [e4] at k'
      simp only at k'
      split at k'
      · rename_i hfr
        obtain ⟨P3, st3, hP3⟩ := st'.show s' hdn fun i t e => by
          subst e
          refine f'.2 i fun z => ?_
          simp only [freeE, Bool.not_eq_true'] at hfr
          rw [List.contains_iff_mem.mpr z] at hfr
          cases hfr
        exact k' σ' G' H' P3 st3 ((s1.trans s').setP fun j a z => (hP3 j a z).elim .inl fun z => .inr z.2) f'
      · exact k'.elim
    refine for_it w (fun i σ' H' => ∃ G' P' r', Sst C G' H' P' r' σ' ∧ Stp G1 H1 P1 G' H' P' ∧ Fr (tgt.slots ++ sb.asgs) σ σ' ∧ forL (fun r => evS sb r) tgt (ds.drop i) r' = of) ?_ ?_ ?_ ?_
    · exact ⟨G1, P1, _, st1, Stp.refl .., Fr.refl, by rw [List.drop_zero]; exact hof⟩
    · rintro i σ' H' _ ⟨G', P', r', st', s', _, _⟩
      exact gst G' H' P' s' st'.gh
    · rintro i x σ' H2 H3 hi ⟨G', P', r2, st', s', f', hc⟩ hY
      obtain ⟨d, G3, hd, gr, rp⟩ := items i _ _ _ hi hY G' s'.gg st'.gh
      rw [List.drop_eq_getElem_cons hi, (List.getElem?_eq_some_iff.mp hd).2] at hc
      simp only [forL] at hc
      have bad : of = .stuck → False := fun e => by rw [e] at k'; exact k'
      cases hb : tgt.bind d r2 with
      | none => rw [hb] at hc; exact (bad hc.symm).elim
      | some r3 =>
        rw [hb] at hc
        simp only at hc
        refine ⟨G3, P', r2, d, r3, st'.grow gr, rp, hb, fun σ2 P2 st2 hsub hfr => ?_⟩
        have s2 : Stp G1 H1 P1 G3 H3 P2 := (s'.trans (Stp.grow gr)).sub hsub
        have f2 : Fr (tgt.slots ++ sb.asgs) σ σ2 := f'.comp (hfr.mono fun i h => List.mem_append_left _ h)
        refine tS_at st2 ?_
        have hm : ∀ {σ3 : St}, Fr sb.asgs σ2 σ3 → Fr (tgt.slots ++ sb.asgs) σ σ3 := fun f => f2.comp (f.mono fun i h => List.mem_append_right _ h)
        cases hbo : evS sb r3 with
        | nx r4 =>
          rw [hbo] at hc
          exact fun σ4 G4 H4 P4 st4 s4 f4 => ⟨G4, P4, r4, st4, s2.trans s4, hm f4, hc⟩
        | ct r4 =>
          rw [hbo] at hc
          exact fun σ4 G4 H4 P4 st4 s4 f4 => ⟨G4, P4, r4, st4, s2.trans s4, hm f4, hc⟩
        | bk r4 =>
          rw [hbo] at hc
          exact fun σ4 G4 H4 P4 st4 s4 f4 => fin r4 hc.symm σ4 G4 H4 P4 st4 (s2.trans s4) (hm f4)
        | rt t r4 =>
          rw [hbo] at hc
          simp only at hc
          rw [← hc] at k'
          exact fun v σ4 G4 H4 P4 A st4 s4 o4 n4 b4 f4 => k' v σ4 G4 H4 P4 A st4 ((s1.trans s2).trans s4) o4 n4 (fun a ha => (s1.trans s2).base (b4 a ha)) (hm f4)
        | stuck =>
          rw [hbo] at hc
          exact (bad hc.symm).elim
    · rintro σ' H' ⟨G', P', r', st', s', f', hc⟩
      rw [List.drop_length] at hc
      simp only [forL] at hc
      exact fin r' hc.symm σ' G' H' P' st' s' f'
  · exact k'.elim
theorem gs_while {n : Nat} (hp : PassesOwn (model X.prog X.w) X.A X.env X.xe) (hc : PT X c (tT C ec)) (hb : PSs X b (tS C sb)) : PS X (.While c b [] pos) (tS C (.whl n ec sb)) := by
  refine PS.imp (ps_while hp hc hb) fun D σ H ⟨G, P, r, st, k⟩ => ?_
  have k' : OutOk C D G H P σ sb.asgs (evS (.whl n ec sb) r) := k
  clear k
  simp only [evS] at k'
  generalize hof : whlL (fun r => (ev ec r).tru) (fun r => evS sb r) n r = of at k'
  have bad : of = .stuck → False := fun e => by rw [e] at k'; exact k'
  have fin : ∀ r4, of = .nx r4 → ∀ σ' G' H' P', Sst C G' H' P' r4 σ' → Stp G H P G' H' P' → Fr sb.asgs σ σ' → D.nx σ' H' := by
    intro r4 e4 σ' G' H' P' st' s' f'
    rw [e4] at k'
    exact k' σ' G' H' P' st' s' f'
  refine ⟨fun m σ' H' => ∃ G' P' r', Sst C G' H' P' r' σ' ∧ Stp G H P G' H' P' ∧ Fr sb.asgs σ σ' ∧ whlL (fun r => (ev ec r).tru) (fun r => evS sb r) m r' = of, ⟨n, G, P, r, st, Stp.refl .., Fr.refl, hof⟩, ?_⟩
  rintro m σ' H' ⟨G', P', r', st', s', f', hw⟩
  cases m with
  | zero => simp only [whlL] at hw; exact (bad hw.symm).elim
  | succ m =>
    simp only [whlL] at hw
    cases ht : (ev ec r').tru with
    | none => rw [ht] at hw; exact (bad hw.symm).elim
    | some q =>
      obtain ⟨bb, r2⟩ := q
      rw [ht] at hw
      refine ⟨G', P', r', bb, r2, st', ht, fun G2 H2 P2 st2 s2 _ => ?_⟩
      have s2' := s'.trans s2
      cases bb with
      | false =>
        simp only at hw
        exact fin r2 hw.symm σ' G2 H2 P2 st2 s2' f'
      | true =>
        simp only at hw
        refine ⟨fun σ3 H3 => ∃ G3 P3 r3, Sst C G3 H3 P3 r3 σ3 ∧ Stp G H P G3 H3 P3 ∧ Fr sb.asgs σ σ3 ∧ whlL (fun r => (ev ec r).tru) (fun r => evS sb r) m r3 = of, fun σ3 H3 q => ⟨m, Nat.lt_succ_self m, q⟩, ?_⟩
        refine tS_at st2 ?_
        cases hbo : evS sb r2 with
        | nx r4 =>
          rw [hbo] at hw
          exact fun σ4 G4 H4 P4 st4 s4 f4 => ⟨G4, P4, r4, st4, s2'.trans s4, f'.comp f4, hw⟩
        | ct r4 =>
          rw [hbo] at hw
          exact fun σ4 G4 H4 P4 st4 s4 f4 => ⟨G4, P4, r4, st4, s2'.trans s4, f'.comp f4, hw⟩
        | bk r4 =>
          rw [hbo] at hw
          exact fun σ4 G4 H4 P4 st4 s4 f4 => fin r4 hw.symm σ4 G4 H4 P4 st4 (s2'.trans s4) (f'.comp f4)
        | rt t r4 =>
          rw [hbo] at hw
          simp only at hw
          rw [← hw] at k'
          exact fun v σ4 G4 H4 P4 A st4 s4 o4 n4 b4 f4 => k' v σ4 G4 H4 P4 A st4 (s2'.trans s4) o4 n4 (fun a ha => s2'.base (b4 a ha)) (f'.comp f4)
        | stuck =>
          rw [hbo] at hw
          exact (bad hw.symm).elim

/-! ### what is changed in its place -/
theorem Sst.updO {G H : Hp} {P : Nat → Addr → Prop} {r : Env} {σ : St} {i : Nat} {d d' : D} {p : Addr} {o' : HO} (st : Sst C G H P r σ) (hi : r[i]? = some (some (.ow d))) (hp : P i p) (f : Flat C G d' o') :
    Sst C G (upd H p o') P (r.set i (some (.ow d'))) σ ∧ Stp G H P G (upd H p o') P := by
  obtain ⟨hG, hH⟩ := st.dom hp
  refine ⟨⟨by rw [List.length_set]; exact st.len, fun a u e => by rw [upd_ne (fun z => by rw [z, hG] at e; cases e)]; exact st.gh a u e, fun j t hj => ?_, fun j a hj => ?_, st.dj⟩, Same.refl _, fun a u e n => by rw [upd_ne (fun z => n i (by rw [z]; exact hp))]; exact e, fun a e => ?_, fun j a h => .inl ⟨j, h⟩, fun a h n => (n h).elim⟩
  · rcases getSet hj with ⟨rfl, ht, _⟩ | ⟨hne, hj⟩
    · cases ht
      obtain ⟨v, h1, h2⟩ := st.sl i _ hi
      refine ⟨v, h1, ?_⟩
      cases h2 with
      | ow q1 q2 q3 q4 =>
        have := (q4 _).mp hp
        subst this
        exact .ow upd_same q2 f q4
    · obtain ⟨v, h1, h2⟩ := st.sl j t hj
      refine ⟨v, h1, Own.mono (Same.refl G) h2 (fun a h => (Own.dom h2 h).1) fun a u ha e => ?_⟩
      rw [upd_ne (fun z => hne (st.dj _ _ _ hp (by rw [← z]; exact ha)))]; exact e
  · obtain ⟨t, ht⟩ := st.pe j a hj
    by_cases hji : i = j
    · subst hji
      exact ⟨_, List.getElem?_set_self (ltOf hi)⟩
    · exact ⟨t, by rw [List.getElem?_set_ne hji]; exact ht⟩
  · by_cases ha : a = p
    · rw [ha, upd_same] at e; cases e
    · rw [upd_ne ha] at e; exact e
theorem Own.at {G H : Hp} {d : D} {v : V} {A : Addr → Prop} (o : Own C G H (.ow d) v A) : ∃ p o', v = .ref p ∧ H p = some o' ∧ Flat C G d o' ∧ A p := by
  cases o with
  | ow h1 h2 h3 h4 => exact ⟨_, _, rfl, h1, h3, (h4 _).mpr rfl⟩
theorem few1 {e : Expr} {cpos : Pos} (hn : notStar e = true) : ((backTo cpos (starEach [e] X.env)).all (fun x => !x.1) && (backToKw cpos (keywordEach [] X.env)).all (fun x => x.1.isSome)
      && decide (([e] : List Expr).length + ([] : List Keyword).length + (if ([] : List Keyword).isEmpty then 0 else 1) < 30)) = true := by
  rw [star_cons hn]; rfl
theorem gs_app {i : Nat} {x : Str} {np apos cpos : Pos} (hN : X.N[i]? = some x) (hv : Vis X.env.scope x) (hd : (x == ("__debug__" : Str)) = false) (hcd : (x == ("__classdict__" : Str)) = false) (hl : (apos.endLine == cpos.line) = true) (hn : notStar e = true) (he : PE X e (tE C ee)) :
    PS X (.Expr (.Call (.Attribute (.Name x np) "append" apos) [e] [] cpos) pos) (tS C (.app i ee)) := by
  refine PS.imp (ps_expr (pe_bm PySem.F.plainAttrs_list PySem.F.slot_list_append PySem.F.type_list_append mt_append (pe_var hN hv hd hcd) (pa_cons he pa_nil (star_cons hn)) rfl (few1 hn) hl (star_cons hn) rfl)) fun D σ H ⟨G, P, r, st, k⟩ => ?_
  simp only [evS] at k
  split at k
  · rename_i ds0 h0
    split at k
    · rename_i x r1 h1
      split at k
      · rename_i ds h2
        split at k
        · rename_i hl
          obtain ⟨v0, e0, o0⟩ := st.sl i _ h0
          obtain ⟨p, ob, rfl, hp, f0, _⟩ := o0.at
          refine ⟨_, e0, ?_, tE_settle st h1 fun w G1 P1 H1 st1 s1 rp1 _ => ?_⟩
          · cases f0 with
            | lst rs => exact .inl ⟨rfl, _, SqL.of hp⟩
          · obtain ⟨v1, e1, o1⟩ := st1.sl i _ h2
            rw [e0] at e1
            cases e1
            obtain ⟨q, ob1, eq1, hq, f1, hA⟩ := o1.at
            cases eq1
            cases f1 with
            | lst rs =>
              obtain ⟨st2, s2⟩ := st1.updO h2 hA (.lst (Reps.app rs (Reps.one rp1)))
              exact ⟨_, _, w, rfl, rfl, hq, by rw [← Reps.length rs]; exact hl, k σ G1 _ P1 st2 (s1.trans s2) Fr.refl⟩
        · exact k.elim
      · exact k.elim
    · exact k.elim
  · exact k.elim
theorem gs_seti {i : Nat} {x : Str} {np spos : Pos} (hN : X.N[i]? = some x) (hv : Vis X.env.scope x) (hd : (x == ("__debug__" : Str)) = false) (hcd : (x == ("__classdict__" : Str)) = false) (hsl : isSlice c = false) (hcm : isComp e = false) (hcc : PE X c (tE C ec)) (he : PE X e (tE C ee)) :
    PS X (.Assign [.Subscript (.Name x np) c spos] e pos) (tS C (.seti i ec ee)) := by
  refine PS.imp (ps_asg he (pg_sub (pe_var hN hv hd hcd) hcc set_list ?_) ?_ ?_ rfl) fun D σ H ⟨G, P, r, st, k⟩ => ?_
  · intro v; cases c <;> first | rfl | (simp [isSlice] at hsl)
  · cases e <;> first | rfl | (simp [isComp] at hcm)
  · cases e <;> rfl
  · simp only [evS] at k
    split at k
    · rename_i t0 h0
      split at k
      · rename_i x1 r1 h1
        split at k
        · rename_i y r2 h2
          split at k
          · rename_i d h3
            split at k
            · rename_i d' h4
              obtain ⟨v0, e0, o0⟩ := st.sl i _ h0
              refine tE_settle st h1 fun w G1 P1 H1 st1 s1 rp1 _ => ⟨v0, e0, tE_settle st1 h2 fun u G2 P2 H2 st2 s2 rp2 _ => ?_⟩
              obtain ⟨v1, e1, o1⟩ := st2.sl i _ h3
              rw [e0] at e1
              cases e1
              obtain ⟨q, ob1, eq1, hq, f1, hA⟩ := o1.at
              cases eq1
              cases f1 with
              | lst rs =>
                generalize hy : y.toD = dy at *
                cases dy with
                | int j =>
                  simp only [setD] at h4
                  split at h4
                  · rename_i kk hk
                    cases h4
                    cases rp2.inti
                    obtain ⟨st3, s3⟩ := st2.updO h3 hA (.lst (Reps.set kk (Rep.mono s2.gg rp1) rs))
                    refine ⟨_, _, j, kk, rfl, rfl, hq, ?_, k σ G2 _ P2 st3 ((s1.trans s2).trans s3) Fr.refl⟩
                    rw [← Reps.length rs]; exact hk
                  · cases h4
                | _ => cases h4
              | _ => cases h4
            · exact k.elim
          · exact k.elim
        · exact k.elim
      · exact k.elim
    · exact k.elim
end
end FJ

/-! Defs: what they promise, calls. -/
namespace FJ
open PySem L2

/-- only what may be changed -/
def maskE : List Bool → Env → Env
  | true :: io, t :: ts => t :: maskE io ts
  | false :: io, _ :: ts => none :: maskE io ts
  | _, _ => []
def spFn (C : Ct) (f : Fn) : Sp := fun vs H Q E => ∃ G P ts t rp, Sst C G H P (ts.map some) (vs.map some) ∧ f.run ts = some (t, rp) ∧ ts.length = f.io.length ∧ ∀ v G' H' P' A, Sst C G' H' P' (maskE f.io rp) (vs.map some) → Stp G H P G' H' P' →
  Own C G' H' t v A → (∀ i a, A a → ¬ P' i a) → (∀ a, A a → (∃ j, P j a) ∨ H a = none) → Q v H'
theorem spFn_len {C : Ct} {f : Fn} {vs : List V} {H : Hp} {Q : VK} {E : XK} (h : spFn C f vs H Q E) : vs.length = f.io.length := by
  obtain ⟨G, P, ts, t, rp, st, _, hl, _⟩ := h
  have := st.len
  rw [List.length_map, List.length_map] at this
  omega

/-- the arguments that were handed on: As what each has -/
inductive ArgOk (C : Ct) (G H : Hp) (P P0 : Nat → Addr → Prop) (H0 : Hp) (σ : St) : List Bool → Ar → List T → List V → List (Addr → Prop) → Prop
  | nil : ArgOk C G H P P0 H0 σ [] .nil [] [] []
  | ci {io : List Bool} {e : E} {as : Ar} {d : D} {v : V} {ts : List T} {vs : List V} {As : List (Addr → Prop)} : Rep C G d v → ArgOk C G H P P0 H0 σ io as ts vs As → ArgOk C G H P P0 H0 σ (false :: io) (.ci e as) (.fr d :: ts) (v :: vs) ((fun _ => False) :: As)
  | cx {io : List Bool} {i : Nat} {as : Ar} {t : T} {v : V} {ts : List T} {vs : List V} {A : Addr → Prop} {As : List (Addr → Prop)} : σ[i]? = some (some v) → Own C G H t v A → (∀ j a, A a → ¬ P j a) → (∀ a, A a → (∃ j, P0 j a) ∨ H0 a = none) → (∀ B ∈ As, ∀ a, A a → ¬ B a) →
      ArgOk C G H P P0 H0 σ io as ts vs As → ArgOk C G H P P0 H0 σ (true :: io) (.cx i as) (t :: ts) (v :: vs) (A :: As)
  | ct {io : List Bool} {e : E} {as : Ar} {t : T} {v : V} {ts : List T} {vs : List V} {A : Addr → Prop} {As : List (Addr → Prop)} : Own C G H t v A → (∀ j a, A a → ¬ P j a) → (∀ a, A a → (∃ j, P0 j a) ∨ H0 a = none) → (∀ B ∈ As, ∀ a, A a → ¬ B a) →
      ArgOk C G H P P0 H0 σ io as ts vs As → ArgOk C G H P P0 H0 σ (true :: io) (.ct e as) (t :: ts) (v :: vs) (A :: As)
def tAr (C : Ct) (io : List Bool) (as : Ar) (K : T → Prop := fun _ => True) : TA := fun σ H Q => ∃ G P r ts r1, Sst C G H P r σ ∧ eva as r = .ok ts r1 ∧ (∀ t, ts.head? = some t → K t) ∧ ∀ vs G1 H1 P1 As, Sst C G1 H1 P1 r1 σ → Stp G H P G1 H1 P1 → ArgOk C G1 H1 P1 P H σ io as ts vs As → (as.pu = true → Same H H1) → Q vs H1
/-- which arguments go back -/
def cxAt : Ar → Nat → Prop
  | .cx _ _, 0 => True
  | .nil, _ => False
  | .ci _ _, 0 => False
  | .ct _ _, 0 => False
  | .cx _ as, j + 1 => cxAt as j
  | .ci _ as, j + 1 => cxAt as j
  | .ct _ as, j + 1 => cxAt as j
section
variable {C : Ct} {G H G1 H1 G2 H2 H0 : Hp} {P P0 P1 P2 : Nat → Addr → Prop} {r r' : Env} {σ : St} {io : List Bool} {as : Ar} {ts : List T} {vs : List V} {As : List (Addr → Prop)}
theorem ArgOk.len (h : ArgOk C G H P P0 H0 σ io as ts vs As) : io.length = ts.length ∧ vs.length = ts.length ∧ As.length = ts.length := by
  induction h with
  | nil => exact ⟨rfl, rfl, rfl⟩
  | ci _ _ ih => simp [ih]
  | cx _ _ _ _ _ _ ih => simp [ih]
  | ct _ _ _ _ _ ih => simp [ih]
theorem ArgOk.base (h : ArgOk C G H P P0 H0 σ io as ts vs As) : ∀ A ∈ As, ∀ a, A a → ((∃ j, P0 j a) ∨ H0 a = none) ∧ G a = none ∧ H a ≠ none ∧ ∀ j, ¬ P j a := by
  induction h with
  | nil => intro A hA; simp at hA
  | ci _ _ ih =>
    intro A hA a ha
    rcases List.mem_cons.mp hA with rfl | hA
    · exact ha.elim
    · exact ih A hA a ha
  | cx _ o n b _ _ ih =>
    intro A hA a ha
    rcases List.mem_cons.mp hA with rfl | hA
    · exact ⟨b a ha, (Own.dom o ha).1, (Own.dom o ha).2, fun j => n j a ha⟩
    · exact ih A hA a ha
  | ct o n b _ _ ih =>
    intro A hA a ha
    rcases List.mem_cons.mp hA with rfl | hA
    · exact ⟨b a ha, (Own.dom o ha).1, (Own.dom o ha).2, fun j => n j a ha⟩
    · exact ih A hA a ha
theorem ArgOk.weak {P0' : Nat → Addr → Prop} {H0' : Hp} (h : ArgOk C G H P P0 H0 σ io as ts vs As) (hb : ∀ a, ((∃ j, P0 j a) ∨ H0 a = none) → (∃ j, P0' j a) ∨ H0' a = none) : ArgOk C G H P P0' H0' σ io as ts vs As := by
  induction h with
  | nil => exact .nil
  | ci r _ ih => exact .ci r ih
  | cx e o n b d _ ih => exact .cx e o n (fun a ha => hb a (b a ha)) d ih
  | ct o n b d _ ih => exact .ct o n (fun a ha => hb a (b a ha)) d ih
/-- new objects are laid behind -/
theorem ArgOk.grow (h : ArgOk C G H P P0 H0 σ io as ts vs As) (g : Grow G H G1 H1) : ArgOk C G1 H1 P P0 H0 σ io as ts vs As := by
  have up : ∀ {t : T} {v : V} {A : Addr → Prop}, Own C G H t v A → Own C G1 H1 t v A := fun o => Own.mono g.gg o (fun a ha => by
    by_cases hn : G1 a = none
    · exact hn
    · exact absurd (g.nw a (Own.dom o ha).1 hn) (Own.dom o ha).2) fun a u _ e => g.hh a u e
  induction h with
  | nil => exact .nil
  | ci r _ ih => exact .ci (Rep.mono g.gg r) ih
  | cx e o n b d _ ih => exact .cx e (up o) n b d ih
  | ct o n b d _ ih => exact .ct (up o) n b d ih
/-- what each argument has -/
def PAs (As : List (Addr → Prop)) : Nat → Addr → Prop := fun j a => ∃ A, As[j]? = some A ∧ A a
theorem ArgOk.sl (h : ArgOk C G H P P0 H0 σ io as ts vs As) : ∀ (j : Nat) (t : T), ts[j]? = some t → ∃ v A, vs[j]? = some v ∧ As[j]? = some A ∧ Own C G H t v A := by
  induction h with
  | nil => intro j t h; simp at h
  | ci r _ ih =>
    intro j t h
    cases j with
    | zero => simp at h; subst h; exact ⟨_, _, rfl, rfl, .fr r fun _ z => z⟩
    | succ j => exact ih j t (by simpa using h)
  | cx _ o _ _ _ _ ih =>
    intro j t h
    cases j with
    | zero => simp at h; subst h; exact ⟨_, _, rfl, rfl, o⟩
    | succ j => exact ih j t (by simpa using h)
  | ct o _ _ _ _ ih =>
    intro j t h
    cases j with
    | zero => simp at h; subst h; exact ⟨_, _, rfl, rfl, o⟩
    | succ j => exact ih j t (by simpa using h)
theorem dj_cons {A : Addr → Prop} {As : List (Addr → Prop)} (d : ∀ B ∈ As, ∀ a, A a → ¬ B a) (ih : ∀ (i j : Nat) (a : Addr), PAs As i a → PAs As j a → i = j) : ∀ (i j : Nat) (a : Addr), PAs (A :: As) i a → PAs (A :: As) j a → i = j := by
  intro i j a ⟨A1, h1, h2⟩ ⟨B, h3, h4⟩
  cases i with
  | zero =>
    cases j with
    | zero => rfl
    | succ j =>
      simp at h1; subst h1
      exact (d B (List.mem_of_getElem? (by simpa using h3)) a h2 h4).elim
  | succ i =>
    cases j with
    | zero =>
      simp at h3; subst h3
      exact (d A1 (List.mem_of_getElem? (by simpa using h1)) a h4 h2).elim
    | succ j => exact congrArg _ (ih i j a ⟨A1, by simpa using h1, h2⟩ ⟨B, by simpa using h3, h4⟩)
theorem ArgOk.dj (h : ArgOk C G H P P0 H0 σ io as ts vs As) : ∀ (i j : Nat) (a : Addr), PAs As i a → PAs As j a → i = j := by
  induction h with
  | nil => intro i j a ⟨A, h, _⟩; simp at h
  | ci _ _ ih => exact dj_cons (fun _ _ _ z => z.elim) ih
  | cx _ _ _ _ d _ ih => exact dj_cons d ih
  | ct _ _ _ d _ ih => exact dj_cons d ih
theorem ArgOk.sst (h : ArgOk C G H P P0 H0 σ io as ts vs As) (g : Same G H) : Sst C G H (PAs As) (ts.map some) (vs.map some) where
  len := by rw [List.length_map, List.length_map, h.len.2.1]
  gh := g
  sl := fun i t e => by
    rw [List.getElem?_map] at e
    cases ht : ts[i]? with
    | none => rw [ht] at e; cases e
    | some t' =>
      rw [ht] at e
      cases e
      obtain ⟨v, A, h1, h2, h3⟩ := h.sl i _ ht
      refine ⟨v, by rw [List.getElem?_map, h1]; rfl, ?_⟩
      have : PAs As i = A := by
        funext a
        refine propext ⟨fun ⟨B, hB, z⟩ => ?_, fun z => ⟨A, h2, z⟩⟩
        rw [h2] at hB; cases hB; exact z
      rw [this]; exact h3
  pe := fun i a ⟨A, hA, _⟩ => by
    have hl : i < ts.length := by rw [← h.len.2.2]; exact ltOf hA
    exact ⟨ts[i], by rw [List.getElem?_map, List.getElem?_eq_getElem hl]; rfl⟩
  dj := h.dj
theorem Sst.none_at {i : Nat} (st : Sst C G H P r σ) : Sst C G H (Pno P i) (r.set i none) σ := by
  refine ⟨by rw [List.length_set]; exact st.len, st.gh, fun j t hj => ?_, fun j a hj => ?_, fun j k a h1 h2 => st.dj j k a h1.2 h2.2⟩
  · rcases getSet hj with ⟨_, z, _⟩ | ⟨hne, hj⟩
    · cases z
    · obtain ⟨u, h1, h2⟩ := st.sl j t hj
      refine ⟨u, h1, ?_⟩
      have : Pno P i j = P j := by
        funext a
        exact propext ⟨fun h => h.2, fun h => ⟨hne.symm, h⟩⟩
      rw [this]; exact h2
  · obtain ⟨t, ht⟩ := st.pe j a hj.2
    exact ⟨t, by rw [List.getElem?_set_ne (Ne.symm hj.1)]; exact ht⟩
theorem ArgOk.pure (h : ArgOk C G H P P0 H0 σ io as ts vs As) : as.pu = true → ∀ A ∈ As, ∀ a, ¬ A a := by
  induction h with
  | nil => intro _ A hA; simp at hA
  | ci _ _ ih =>
    intro hp A hA a ha
    rcases List.mem_cons.mp hA with rfl | hA
    · exact ha
    · exact ih (andT hp).2 A hA a ha
  | cx _ _ _ _ _ _ ih => intro hp; cases hp
  | ct _ _ _ _ _ ih => intro hp; cases hp
/-- back in the caller -/
theorem put_back {Pc : Nat → Addr → Prop} (h : ArgOk C G1 H1 P1 P0 H0 σ io as ts vs As) : ∀ (off : Nat) (rp r : Env) (Pr : Nat → Addr → Prop),
    (∀ (j : Nat) (t : T), (maskE io rp)[j]? = some (some t) → ∃ v, vs[j]? = some v ∧ Own C G2 H2 t v (Pc (off + j))) → (∀ i j a, Pc i a → Pc j a → i = j) → Sst C G2 H2 Pr r σ → (∀ j k a, Pc (off + j) a → ¬ Pr k a) →
    ∃ Pr', Sst C G2 H2 Pr' (putBack as io rp r) σ ∧ ∀ k a, Pr' k a → Pr k a ∨ ∃ j, cxAt as j ∧ Pc (off + j) a := by
  induction h with
  | nil =>
    intro off rp r Pr hc hd st hdj
    exact ⟨Pr, by unfold putBack; exact st, fun k a z => .inl z⟩
  | ci _ _ ih =>
    intro off rp r Pr hc hd st hdj
    cases rp with
    | nil => exact ⟨Pr, by unfold putBack; exact st, fun k a z => .inl z⟩
    | cons t rp =>
      obtain ⟨Pr', s1, s2⟩ := ih (off + 1) rp r Pr (fun j t h => by
        obtain ⟨v, h1, h2⟩ := hc (j + 1) t (by simpa [maskE] using h)
        exact ⟨v, by simpa using h1, by rw [show off + 1 + j = off + (j + 1) by omega]; exact h2⟩) hd st (fun j k a h => hdj (j + 1) k a (by rw [show off + (j + 1) = off + 1 + j by omega]; exact h))
      refine ⟨Pr', by unfold putBack; exact s1, fun k a z => (s2 k a z).elim .inl fun ⟨j, hc, hj⟩ => .inr ⟨j + 1, hc, by rw [show off + (j + 1) = off + 1 + j by omega]; exact hj⟩⟩
  | ct _ _ _ _ _ ih =>
    intro off rp r Pr hc hd st hdj
    cases rp with
    | nil => exact ⟨Pr, by unfold putBack; exact st, fun k a z => .inl z⟩
    | cons t rp =>
      obtain ⟨Pr', s1, s2⟩ := ih (off + 1) rp r Pr (fun j t h => by
        obtain ⟨v, h1, h2⟩ := hc (j + 1) t (by simpa [maskE] using h)
        exact ⟨v, by simpa using h1, by rw [show off + 1 + j = off + (j + 1) by omega]; exact h2⟩) hd st (fun j k a h => hdj (j + 1) k a (by rw [show off + (j + 1) = off + 1 + j by omega]; exact h))
      refine ⟨Pr', by unfold putBack; exact s1, fun k a z => (s2 k a z).elim .inl fun ⟨j, hc, hj⟩ => .inr ⟨j + 1, hc, by rw [show off + (j + 1) = off + 1 + j by omega]; exact hj⟩⟩
  | @cx io' i as' t0 v ts' vs' A As' e _ _ _ _ _ ih =>
    intro off rp r Pr hc hd st hdj
    cases rp with
    | nil => exact ⟨Pr, by unfold putBack; exact st, fun k a z => .inl z⟩
    | cons t rp =>
      have hi : i < σ.length := ltOf e
      have step : ∃ Pi, Sst C G2 H2 Pi (r.set i t) σ ∧ ∀ k a, Pi k a → Pr k a ∨ Pc (off + 0) a := by
        cases t with
        | none => exact ⟨Pno Pr i, st.none_at, fun k a z => .inl z.2⟩
        | some t =>
          obtain ⟨w, h1, h2⟩ := hc 0 t rfl
          simp at h1
          subst h1
          have st2 := st.put h2 (fun j a ha _ => hdj 0 j a ha) hi
          have : σ.set i (some v) = σ := by
            apply List.ext_getElem?
            intro j
            by_cases hj : i = j
            · subst hj
              rw [List.getElem?_set_self hi, e]
            · rw [List.getElem?_set_ne hj]
          rw [this] at st2
          exact ⟨_, st2, fun k a z => z.elim (fun z => .inr z.2) fun z => .inl z.2⟩
      obtain ⟨Pi, st2, hPi⟩ := step
      obtain ⟨Pr', s1, s2⟩ := ih (off + 1) rp (r.set i t) Pi (fun j t h => by
        obtain ⟨v, h1, h2⟩ := hc (j + 1) t (by simpa [maskE] using h)
        exact ⟨v, by simpa using h1, by rw [show off + 1 + j = off + (j + 1) by omega]; exact h2⟩) hd st2 (fun j k a h z => by
          rcases hPi k a z with z | z
          · exact hdj (j + 1) k a (by rw [show off + (j + 1) = off + 1 + j by omega]; exact h) z
          · have := hd _ _ a h z
            omega)
      refine ⟨Pr', by unfold putBack; exact s1, fun k a z => ?_⟩
      rcases s2 k a z with z | ⟨j, hc, hj⟩
      · exact (hPi k a z).elim .inl fun z => .inr ⟨0, trivial, z⟩
      · exact .inr ⟨j + 1, hc, by rw [show off + (j + 1) = off + 1 + j by omega]; exact hj⟩
/-- a def's run from a caller -/
theorem call_core {f : Fn} {E : XK} {Q : VK} {t : T} {rp r1 : Env} (hio : f.io = io) (st1 : Sst C G1 H1 P1 r1 σ) (s1 : Stp G H P G1 H1 P1) (ok : ArgOk C G1 H1 P1 P H σ io as ts vs As) (hf : f.run ts = some (t, rp))
    (k : ∀ v G2 H2 P2 P3 A, Sst C G2 H2 P3 (putBack as io rp r1) σ → Stp G H P G2 H2 P3 → Own C G2 H2 t v A → (∀ i a, A a → ¬ P3 i a) → (∀ a, A a → (∃ j, P j a) ∨ H a = none) → (as.pu = true → Same H1 H2) →
      Sst C G2 H2 P2 (maskE io rp) (vs.map some) → (∀ i a, A a → ¬ P2 i a) → (∀ i a, P2 i a → (∃ j, P j a) ∨ H a = none) → (∀ i j a, P2 i a → ¬ cxAt as i → ¬ P3 j a) → Q v H2) : spFn C f vs H1 Q E := by
  refine ⟨G1, PAs As, ts, t, rp, ok.sst st1.gh, hf, by rw [hio, ok.len.1], fun v G2 H2 P2 A st2 s2 o n b => ?_⟩
  have hb := ok.base
  have hPA : ∀ j a, PAs As j a → ((∃ j, P j a) ∨ H a = none) ∧ G1 a = none ∧ H1 a ≠ none ∧ ∀ j, ¬ P1 j a := fun j a ⟨A, h1, h2⟩ => hb A (List.mem_of_getElem? h1) a h2
  have hfar : ∀ k a, P1 k a → ¬ ((∃ j, PAs As j a) ∨ H1 a = none) := fun k a hk z => by
    rcases z with ⟨j, hj⟩ | z
    · exact (hPA j a hj).2.2.2 k hk
    · exact (st1.dom hk).2 z
  have stc : Sst C G2 H2 P1 r1 σ := by
    refine ⟨st1.len, st2.gh, fun i t e => ?_, st1.pe, st1.dj⟩
    obtain ⟨u, h1, h2⟩ := st1.sl i t e
    exact ⟨u, h1, (Own.stays s2 h2 fun j a ha z => (hPA j a z).2.2.2 i ha).1⟩
  rw [hio] at st2
  obtain ⟨P3, st3, hP3⟩ := put_back (Pc := P2) ok 0 rp r1 P1 (fun j t h => by
    obtain ⟨u, h1, h2⟩ := st2.sl j t h
    rw [List.getElem?_map] at h1
    cases hv : vs[j]? with
    | none => rw [hv] at h1; cases h1
    | some w =>
      rw [hv] at h1
      cases h1
      exact ⟨_, rfl, by rw [Nat.zero_add]; exact h2⟩) st2.dj stc (fun j k a h z => hfar k a z (s2.pp _ a h))
  have hbase : ∀ a, (∃ j, PAs As j a) ∨ H1 a = none → (∃ j, P j a) ∨ H a = none := fun a z => by
    rcases z with ⟨j, z⟩ | z
    · exact (hPA j a z).1
    · exact .inr (s1.ld a z)
  refine k v G2 H2 P2 P3 A st3 ⟨s1.gg.trans s2.gg, fun a u h n0 => s2.kp a u (s1.kp a u h n0) fun j z => ?_, fun a h => s1.ld a (s2.ld a h), fun j a z => ?_, fun a h n0 => ?_⟩ o (fun j a ha z => ?_) (fun a ha => hbase a (b a ha)) (fun hpu => ?_) st2 n (fun i a z => hbase a (s2.pp i a z)) (fun i j a z hc z3 => ?_)
  · exact (hPA j a z).1.elim (fun ⟨j, hj⟩ => n0 j hj) fun z => by rw [h] at z; cases z
  · rcases hP3 j a z with z | ⟨j, _, z⟩
    · exact s1.pp j a z
    · exact hbase a (s2.pp _ a z)
  · by_cases h1 : G1 a = none
    · exact hbase a (s2.gn a h1 n0)
    · exact s1.gn a h h1
  · rcases hP3 j a z with z | ⟨j, _, z⟩
    · exact hfar j a z (b a ha)
    · exact n _ a ha z
  · refine fun a u h => s2.kp a u h fun j z => ?_
    obtain ⟨A', h1, h2⟩ := z
    exact ok.pure hpu A' (List.mem_of_getElem? h1) a h2
  · rcases hP3 j a z3 with z3 | ⟨j', hj', z3⟩
    · exact hfar j a z3 (s2.pp i a z)
    · have := st2.dj _ _ a z z3
      rw [Nat.zero_add] at this
      subst this
      exact hc hj'
end

section
variable {X : Cx} {C : Ct} {e o : Expr} {es : List Expr} {ee : E} {as : Ar} {io : List Bool} {p pos apos : Pos} {K : T → Prop} {I : V → Hp → Prop} {σ : St} {H : Hp} {Q : List V → Hp → Prop}
theorem tAr_nil (q : tAr C [] .nil K σ H Q) : Q [] H := by
  obtain ⟨G, P, r, ts, r1, st, e, _, k⟩ := q
  simp only [eva] at e
  cases e
  exact k [] G H P [] st (Stp.refl ..) .nil fun _ => Same.refl _
/-- the first argument, then the others; I: what is known of the first -/
theorem split_ci (hI : ∀ t v A G H, Same G H → Own C G H t v A → K t → I v H) (q : tAr C (false :: io) (.ci ee as) K σ H Q) : tE C ee σ H fun v H1 => I v H1 ∧ tAr C io as (fun _ => True) σ H1 fun vs H2 => Q (v :: vs) H2 := by
  obtain ⟨G, P, r, ts, r1, st, e, hK, k⟩ := q
  simp only [eva] at e
  split at e
  · rename_i x r2 h1
    split at e
    · rename_i ts2 r3 h2
      cases e
      refine tE_settle st h1 fun v1 G1 P1 H1 st1 s1 rp p1 => ⟨hI _ v1 (fun _ => False) G1 H1 st1.gh (.fr rp fun _ z => z) (hK _ rfl), G1, P1, _, ts2, _, st1, h2, fun _ _ => trivial, fun vs G2 H2 P2 As st2 s2 ok p2 => ?_⟩
      exact k (v1 :: vs) G2 H2 P2 _ st2 (s1.trans s2) (.ci (Rep.mono s2.gg rp) (ok.weak fun a h => s1.base h)) fun h => (p1 (andT h).1).trans (p2 (andT h).2)
    · cases e
  · cases e
theorem split_cx {i : Nat} (hI : ∀ t v A G H, Same G H → Own C G H t v A → K t → I v H) (q : tAr C (true :: io) (.cx i as) K σ H Q) : tVar i σ H fun v H1 => I v H1 ∧ tAr C io as (fun _ => True) σ H1 fun vs H2 => Q (v :: vs) H2 := by
  obtain ⟨G, P, r, ts, r1, st, e, hK, k⟩ := q
  simp only [eva] at e
  split at e
  · rename_i t ht
    split at e
    · rename_i ts2 r3 h2
      cases e
      obtain ⟨v, h1, o⟩ := st.sl i t ht
      have n0 : ∀ j a, P i a → ¬ Pno P i j a := fun j a ha z => z.1 (st.dj _ _ _ z.2 ha)
      refine ⟨v, h1, hI t v _ G H st.gh o (hK _ rfl), G, Pno P i, _, ts2, _, st.none_at, h2, fun _ _ => trivial, fun vs G2 H2 P2 As st2 s2 ok p2 => ?_⟩
      obtain ⟨o2, n2⟩ := Own.stays s2 o n0
      have hb := ok.base
      refine k (v :: vs) G2 H2 P2 _ st2 (((Stp.refl G H P).sub fun _ _ z => z.2).trans s2) (.cx h1 o2 n2 (fun a ha => .inl ⟨i, ha⟩) (fun B hB a ha hb' => ?_) (ok.weak fun a h => ?_)) fun h => by cases h
      · rcases (hb B hB a hb').1 with ⟨j, hj⟩ | z
        · exact n0 j a ha hj
        · exact (Own.dom o ha).2 z
      · exact h.elim (fun ⟨j, hj⟩ => .inl ⟨j, hj.2⟩) .inr
    · cases e
  · cases e
theorem split_ct (hI : ∀ t v A G H, Same G H → Own C G H t v A → K t → I v H) (q : tAr C (true :: io) (.ct ee as) K σ H Q) : tE C ee σ H fun v H1 => I v H1 ∧ tAr C io as (fun _ => True) σ H1 fun vs H2 => Q (v :: vs) H2 := by
  obtain ⟨G, P, r, ts, r1, st, e, hK, k⟩ := q
  simp only [eva] at e
  split at e
  · rename_i x r2 h1
    split at e
    · rename_i ts2 r3 h2
      cases e
      cases x with
      | b j t =>
        refine tE_settle st h1 fun v1 G1 P1 H1 st1 s1 rp p1 => ⟨hI _ v1 (fun _ => False) G1 H1 st1.gh (.fr rp fun _ z => z) (hK _ rfl), G1, P1, _, ts2, _, st1, h2, fun _ _ => trivial, fun vs G2 H2 P2 As st2 s2 ok p2 => ?_⟩
        exact k (v1 :: vs) G2 H2 P2 ((fun _ => False) :: As) st2 (s1.trans s2) (.ct (.fr (Rep.mono s2.gg rp) fun _ z => z) (fun _ _ z => z.elim) (fun _ z => z.elim) (fun _ _ _ z => z.elim) (ok.weak fun a h => s1.base h)) fun h => by cases h
      | v t =>
        refine tE_at st h1 fun v1 G1 H1 P1 A st1 s1 res hA p1 => ?_
        obtain ⟨o, n⟩ := res
        refine ⟨hI t v1 A G1 H1 st1.gh o (hK _ rfl), G1, P1, _, ts2, _, st1, h2, fun _ _ => trivial, fun vs G2 H2 P2 As st2 s2 ok p2 => ?_⟩
        obtain ⟨o2, n2⟩ := Own.stays s2 o fun j a ha => n j a ha
        have hb := ok.base
        refine k (v1 :: vs) G2 H2 P2 (A :: As) st2 (s1.trans s2) (.ct o2 n2 hA (fun B hB a ha hb' => ?_) (ok.weak fun a h => s1.base h)) fun h => by cases h
        rcases (hb B hB a hb').1 with ⟨j, hj⟩ | z
        · exact n j a ha hj
        · exact (Own.dom o ha).2 z
    · cases e
  · cases e
theorem gr_nil : PA X [] (tAr C [] .nil) := PA.imp pa_nil fun σ H Q q => tAr_nil q
theorem gr_ci (hn : notStar e = true) (he : PE X e (tE C ee)) (hs : PA X es (tAr C io as)) : PA X (e :: es) (tAr C (false :: io) (.ci ee as)) :=
  PA.imp (pa_cons he hs (star_cons hn)) fun σ H Q q => tE_mono (split_ci (I := fun _ _ => True) (fun _ _ _ _ _ _ _ _ => trivial) q) fun _ _ z => z.2
theorem gr_ct (hn : notStar e = true) (he : PE X e (tE C ee)) (hs : PA X es (tAr C io as)) : PA X (e :: es) (tAr C (true :: io) (.ct ee as)) :=
  PA.imp (pa_cons he hs (star_cons hn)) fun σ H Q q => tE_mono (split_ct (I := fun _ _ => True) (fun _ _ _ _ _ _ _ _ => trivial) q) fun _ _ z => z.2
theorem gr_cx {i : Nat} (hn : notStar e = true) (he : PE X e (tVar i)) (hs : PA X es (tAr C io as)) : PA X (e :: es) (tAr C (true :: io) (.cx i as)) :=
  PA.imp (pa_cons he hs (star_cons hn)) fun σ H Q q => let ⟨v, h1, h2⟩ := split_cx (I := fun _ _ => True) (fun _ _ _ _ _ _ _ _ => trivial) q; ⟨v, h1, h2.2⟩
/-- a def's call -/
theorem call_read {f : Fn} {Q : VK} {E : XK} (hio : f.io = io) (q : tE C (.call f as) σ H Q) : tCall (spFn C f) [] E (tAr C io as) σ H Q := by
  obtain ⟨G, P, r, y, r', st, e, k⟩ := q
  simp only [ev] at e
  split at e
  · rename_i ts r1 h1
    split at e
    · rename_i t rp hf
      cases e
      refine ⟨G, P, r, ts, r1, st, h1, fun _ _ => trivial, fun vs G1 H1 P1 As st1 s1 ok p1 => ?_⟩
      show spFn C f (vs ++ []) H1 Q E
      rw [List.append_nil]
      refine call_core hio st1 s1 ok hf fun v G2 H2 P2 P3 A st3 s3 o n b pu _ _ _ _ => ?_
      exact k v G2 H2 P3 A (by rw [hio]; exact st3) s3 ⟨o, fun i a ha => n i a ha⟩ b fun hpu => (p1 hpu).trans (pu hpu)
    · cases e
  · cases e
theorem ge_call {f : Fn} {k : Nat} {fa : Addr} {fd : FuncData} {ps : List Str} {x : Str} (F : FnOk X.prog X.w X.K X.mg X.base CX0 k fa fd ps (spFn C f)) (hr : Room k X.A) (hg : Gl X x) (hdb : (x == ("__debug__" : Str)) = false)
    (hm : X.mg x = some (.ref fa)) (hk : PySem.W.keepIn X.K (.ref fa) = true) (hb : Binds X.K fd ps []) (hn : noStars es = true) (h0 : es = [] → as = .nil ∧ f.io = []) (ha : PA X es (tAr C f.io as)) : PE X (.Call (.Name x p) es [] pos) (tE C (.call f as)) := by
  have px : Passes CX0 X (fun _ _ _ => False) := fun _ _ _ _ _ _ _ h => h.elim
  cases es with
  | nil =>
    refine PE.imp (pe_call0 F hr hg hm hk hb .nil px hdb) fun σ H Q q => ?_
    obtain ⟨e1, e2⟩ := h0 rfl
    have q' := call_read (E := fun _ _ _ => False) rfl q
    rw [e1, e2] at q'
    exact tAr_nil q'
  | cons e es =>
    simp only [noStars, List.all_cons, Bool.and_eq_true] at hn
    exact PE.imp (pe_call F hr hg hm hk hb .nil px ha hdb (star_cons hn.1) (star_no (by unfold noStars; exact hn.2))) fun σ H Q q => call_read rfl q
end
end FJ

/-! Objects, dict displays, d.update. -/
namespace FJ
open PySem L2

/-! ### fields -/
theorem zip_lookup {m : Str} {v : V} : ∀ {N : List Str} {vs : List V} {k : Nat}, N.Nodup → N[k]? = some m → vs[k]? = some v → (N.zip vs).lookup m = some v
  | [], _, _, _, h, _ => by simp at h
  | _ :: _, [], _, _, _, h => by simp at h
  | x :: N, u :: vs, 0, _, h1, h2 => by
    simp at h1 h2
    subst h1; subst h2
    simp
  | x :: N, u :: vs, k + 1, nd, h1, h2 => by
    have hne : (m == x) = false := by
      have h1' : N[k]? = some m := by simpa using h1
      have := List.mem_of_getElem? h1'
      have n1 := (List.nodup_cons.mp nd).1
      simp only [beq_eq_false_iff_ne, ne_eq]
      rintro rfl
      exact n1 this
    rw [List.zip_cons_cons, List.lookup_cons, hne]
    exact zip_lookup (List.nodup_cons.mp nd).2 (by simpa using h1) (by simpa using h2)
theorem zip_lookup_no {m : Str} : ∀ {N : List Str} {vs : List V}, m ∉ N → (N.zip vs).lookup m = none
  | [], _, _ => rfl
  | _ :: _, [], _ => rfl
  | x :: N, u :: vs, h => by
    have hne : (m == x) = false := by
      simp only [beq_eq_false_iff_ne, ne_eq]
      rintro rfl
      exact h (List.mem_cons_self ..)
    rw [List.zip_cons_cons, List.lookup_cons, hne]
    exact zip_lookup_no fun z => h (List.mem_cons_of_mem _ z)
theorem putF_zip {m : Str} {y : V} : ∀ {N : List Str} {vs : List V} {k : Nat}, N.Nodup → N[k]? = some m → (k < vs.length → putF m y (N.zip vs) = N.zip (vs.set k y)) ∧ (k = vs.length → putF m y (N.zip vs) = N.zip (vs ++ [y]))
  | [], _, _, _, h => by simp at h
  | x :: N, [], 0, nd, h => by
    simp at h
    subst h
    exact ⟨fun z => by simp at z, fun _ => by simp [putF]⟩
  | x :: N, [], k + 1, nd, h => ⟨fun z => by simp at z, fun z => by simp at z⟩
  | x :: N, u :: vs, 0, nd, h => by
    simp at h
    subst h
    exact ⟨fun _ => by simp [putF], fun z => by simp at z⟩
  | x :: N, u :: vs, k + 1, nd, h => by
    have h' : N[k]? = some m := by simpa using h
    have hne : ¬ x = m := by
      rintro rfl
      exact (List.nodup_cons.mp nd).1 (List.mem_of_getElem? h')
    obtain ⟨a, b⟩ := putF_zip (y := y) (vs := vs) (List.nodup_cons.mp nd).2 h'
    refine ⟨fun z => ?_, fun z => ?_⟩
    · simp only [List.zip_cons_cons, putF, if_neg hne, List.set_cons_succ]
      rw [a (by simpa using z)]
    · simp only [List.zip_cons_cons, putF, if_neg hne, List.cons_append]
      rw [b (by simpa using z)]
/-- a class's field -/
structure FOk (K : PySem.W.Frag) (C : Ct) (c : Nat) (m : Str) (k : Nat) : Prop where
  cl : Cls K (C.cls c)
  na : NoAttr K (C.cls c) m
  at_ : (C.fld c)[k]? = some m
  nd : (C.fld c).Nodup
  few : (C.fld c).length < 1000
/-- a class's method -/
structure MOk (P : Program) (w : World) (K : PySem.W.Frag) (mg : Str → Option Value) (base : Heap) (C : Ct) (k : Nat) (c : Nat) (m : Str) (f : Fn) : Prop where
  ex : ∃ fa fd ps, Cls K (C.cls c) ∧ Meth K (C.cls c) m fa ∧ FnOk P w K mg base CX0 k fa fd ps (spFn C f) ∧ Binds K fd ps [] ∧ m ∉ C.fld c
/-- a class made by its __init__ (level j + 1 in all) -/
structure NOk (P : Program) (w : World) (K : PySem.W.Frag) (mg : Str → Option Value) (base : Heap) (C : Ct) (k : Nat) (x : Str) (c : Nat) (f : Fn) : Prop where
  ex : ∃ j fa fd ps, j + 1 ≤ k ∧ mg x = some (.ref (C.cls c)) ∧ Mk K (C.cls c) fa ∧ FnOk P w K mg base CX0 j fa fd ps (spFn C f) ∧ Binds K fd ps []

section
variable {X : Cx} {C : Ct} {a e o : Expr} {es : List Expr} {ea ee : E} {as : Ar} {p pos apos : Pos} {m : Str}
theorem ge_fld {f : Nat → Option Nat} (hf : ∀ c k, f c = some k → FOk X.K C c m k) (hb : baseOk a = true) (ha : PE X a (tE C ea)) : PE X (.Attribute a m pos) (tE C (.fld ea f)) := by
  refine PE.imp (pe_fld ha (base_ok hb)) fun σ H Q ⟨G, P, r, y, r', st, e, k⟩ => ?_
  simp only [ev] at e
  obtain ⟨x1, r1, h1, e⟩ := R.use_ok e
  obtain ⟨d, hd, rfl, rfl⟩ := ofD_ok e
  refine tE_use true st h1 fun v1 G1 H1 P1 st1 s1 u1 p1 => ?_
  have u := u1 _ _ _ (Stp.refl ..) fun _ => Same.refl _
  generalize hx : x1.toD = dx at *
  cases dx with
  | obj c ds =>
    simp only [fldD] at hd
    split at hd
    · rename_i kk hk
      obtain ⟨q, dd, vs, rfl, h, rs⟩ := u.obj st1.gh
      obtain ⟨v, h2, rp⟩ := Reps.get rs hd
      have F := hf c kk hk
      exact ⟨q, _, dd, _, v, rfl, h, F.cl, F.na, zip_lookup F.nd F.at_ h2, k.fr st1 s1 p1 rp⟩
    · cases hd
  | _ => cases hd
theorem gs_setf {i : Nat} {x : Str} {np fpos : Pos} {f : Nat → Option Nat} (hf : ∀ c k, f c = some k → FOk X.K C c m k) (hN : X.N[i]? = some x) (hv : Vis X.env.scope x) (hd : (x == ("__debug__" : Str)) = false) (hcd : (x == ("__classdict__" : Str)) = false) (hcm : isComp e = false) (he : PE X e (tE C ee)) :
    PS X (.Assign [.Attribute (.Name x np) m fpos] e pos) (tS C (.setf i f ee)) := by
  refine PS.imp (ps_fld (pe_var hN hv hd hcd) he ?_) fun D σ H ⟨G, P, r, st, k⟩ => ?_
  · cases e <;> first | rfl | (simp [isComp] at hcm)
  · simp only [evS] at k
    split at k
    · rename_i t0 h0
      split at k
      · rename_i x1 r1 h1
        split at k
        · rename_i c ds h3
          split at k
          · rename_i kk hk
            obtain ⟨v0, e0, o0⟩ := st.sl i _ h0
            have F := hf c kk hk
            refine tE_settle st h1 fun w G1 P1 H1 st1 s1 rp1 _ => ⟨v0, e0, ?_⟩
            obtain ⟨v1, e1, o1⟩ := st1.sl i _ h3
            rw [e0] at e1
            cases e1
            obtain ⟨q, ob1, eq1, hq, f1, hA⟩ := o1.at
            cases eq1
            cases f1 with
            | @obj _ dd _ vs rs =>
              have few : ((C.fld c).zip vs).length < 1000 := by
                rw [List.length_zip]; have := F.few; omega
              obtain ⟨pz1, pz2⟩ := putF_zip (y := w) (vs := vs) F.nd F.at_
              rw [Reps.length rs] at k
              split at k
              · rename_i hlt
                obtain ⟨st2, s2⟩ := st1.updO h3 hA (.obj (dx := dd) (Reps.set kk rp1 rs))
                exact ⟨q, _, dd, _, rfl, hq, F.cl, F.na, few, by rw [pz1 hlt]; exact k σ G1 _ P1 st2 (s1.trans s2) Fr.refl⟩
              · split at k
                · rename_i heq
                  obtain ⟨st2, s2⟩ := st1.updO h3 hA (.obj (dx := dd) (Reps.app rs (Reps.one rp1)))
                  exact ⟨q, _, dd, _, rfl, hq, F.cl, F.na, few, by rw [pz2 heq]; exact k σ G1 _ P1 st2 (s1.trans s2) Fr.refl⟩
                · exact k.elim
          · exact k.elim
        · exact k.elim
      · exact k.elim
    · exact k.elim

/-! ### a new object -/
theorem new_read {x : Str} {c : Nat} {f : Fn} {io : List Bool} {σ : St} {H : Hp} {Q : VK} {E : XK} (hio : f.io = true :: io) (q : tE C (.new c f as) σ H Q) : tMake (C.cls c) (spFn C f) [] E (tAr C io as) σ H Q := by
  obtain ⟨G, P, r, y, r', st, e, k⟩ := q
  simp only [ev] at e
  split at e
  · rename_i ts r1 h1
    split at e
    · rename_i t0 rp hf
      cases e
      refine ⟨G, P, r, ts, r1, st, h1, fun _ _ => trivial, fun vs G1 H1 P1 As st1 s1 ok p1 => ?_⟩
      intro x dx hx hdx hne
      show spFn C f (.ref x :: (vs ++ [])) _ _ E
      rw [List.append_nil]
      have gx : G1 x = none := Same.no st1.gh hx
      have hx2 : upd H1 dx (.own x) x = none := by rw [upd_ne (Ne.symm hne)]; exact hx
      have gr : Grow G1 H1 G1 (upd (upd H1 dx (.own x)) x (.ins (C.cls c) dx [])) := (Grow.nu st1.gh hdx).trans (Grow.nu (st1.gh.trans (Same.nu hdx)) hx2)
      have st2 := st1.grow gr
      have hox : Own C G1 (upd (upd H1 dx (.own x)) x (.ins (C.cls c) dx [])) (.ow (.obj c [])) (.ref x) (fun a => a = x) := by
        refine .ow upd_same gx ?_ fun _ => Iff.rfl
        have := Flat.obj (C := C) (G := G1) (c := c) (dx := dx) (ds := []) (vs := []) .nil
        rw [List.zip_nil_right] at this
        exact this
      have ok2 : ArgOk C G1 (upd (upd H1 dx (.own x)) x (.ins (C.cls c) dx [])) P1 P H σ (true :: io) (.ct (.cst .non) as) (.ow (.obj c []) :: ts) (.ref x :: vs) ((fun a => a = x) :: As) :=
        .ct hox (fun j a ha hp => (st1.dom hp).2 (by rw [ha]; exact hx)) (fun a ha => .inr (by rw [ha]; exact s1.ld x hx)) (fun B hB a ha hb => (ok.base B hB a hb).2.2.1 (by rw [ha]; exact hx)) (ok.grow gr)
      refine call_core (r1 := r1) hio st2 (s1.trans (Stp.grow gr)) ok2 hf fun v G2 H2 P2 P3 A st3 s3 o n b pu st4 n4 b4 dj4 => ?_
      have hv : v = .non := by
        cases o with
        | fr rp0 _ => exact rp0.nonv
      refine ⟨hv, ?_⟩
      obtain ⟨w, hw, ow⟩ := st4.sl 0 t0 (by simp [maskE])
      simp at hw
      subst hw
      refine k (.ref x) G2 H2 P3 (P2 0) ?_ s3 ⟨ow, fun i a ha => dj4 0 i a ha (fun z => z)⟩ (fun a ha => b4 0 a ha) fun z => by cases z
      rw [hio]
      exact st3
    · cases e
  · cases e
theorem ge_new {c : Nat} {f : Fn} {io : List Bool} {x : Str} {k : Nat} (hN : NOk X.prog X.w X.K X.mg X.base C k x c f) (hio : f.io = true :: io) (hr : Room k X.A) (hg : Gl X x) (hdb : (x == ("__debug__" : Str)) = false) (hn : noStars es = true) (h0 : es = [] → as = .nil ∧ io = [])
    (ha : PA X es (tAr C io as)) : PE X (.Call (.Name x p) es [] pos) (tE C (.new c f as)) := by
  obtain ⟨j, fa, fd, ps, hj, hm, M, F, hb⟩ := hN.ex
  have px : Passes CX0 X (fun _ _ _ => False) := fun _ _ _ _ _ _ _ h => h.elim
  cases es with
  | nil =>
    refine PE.imp (pe_make0 M F (hr.mono hj) hg hm hb .nil px hdb) fun σ H Q q => ?_
    obtain ⟨e1, e2⟩ := h0 rfl
    have q' := new_read (x := x) (E := fun _ _ _ => False) hio q
    rw [e1, e2] at q'
    exact tAr_nil q'
  | cons e es =>
    simp only [noStars, List.all_cons, Bool.and_eq_true] at hn
    exact PE.imp (pe_make M F (hr.mono hj) hg hm hb .nil px ha hdb (star_cons hn.1) (star_no (by unfold noStars; exact hn.2))) fun σ H Q q => new_read (x := x) hio q

/-! ### a method's call -/
/-- v is an instance of the class c -/
def InsAt (C : Ct) (c : Nat) (v : V) (H : Hp) : Prop := ∃ a dx vs, v = .ref a ∧ H a = some (.ins (C.cls c) dx ((C.fld c).zip vs))
theorem toDs_obj {t : T} {c : Nat} {ds : List D} {v : V} {A : Addr → Prop} {G H : Hp} (g : Same G H) (o : Own C G H t v A) (h : t.toD = .obj c ds) : InsAt C c v H := by
  cases o with
  | fr rp _ =>
    rw [show (T.fr _).toD = _ by simp [T.toD]; rfl] at h
    subst h
    cases rp with
    | obj h1 _ => exact ⟨_, _, _, rfl, g _ _ h1⟩
  | ow h1 h2 f _ =>
    rw [show (T.ow _).toD = _ by simp [T.toD]; rfl] at h
    subst h
    cases f with
    | obj rs => exact ⟨_, _, _, rfl, h1⟩
  | no h1 _ _ _ _ =>
    simp only [T.toD] at h
    cases h
    exact ⟨_, _, _, rfl, h1⟩
  | nl _ _ _ _ _ => simp [T.toD] at h
  | nt _ _ _ _ _ => simp [T.toD] at h
  | nd _ _ _ _ _ _ => simp [T.toD] at h
theorem meth_read {ms : Nat → Option Fn} {σ : St} {H : Hp} {Q : VK} {E : XK} (q : tE C (.meth ms as) σ H Q) : ∃ c f, ms c = some f ∧ tAr C f.io as (fun t => ∃ ds, t.toD = .obj c ds) σ H fun vs H1 => spFn C f vs H1 Q E := by
  obtain ⟨G, P, r, y, r', st, e, k⟩ := q
  simp only [ev] at e
  split at e
  · rename_i t ts r1 h1
    split at e
    · rename_i c ds hc
      split at e
      · rename_i f hm
        split at e
        · rename_i u rp hf
          cases e
          refine ⟨c, f, hm, G, P, r, _, r1, st, h1, fun t' ht' => ?_, fun vs G1 H1 P1 As st1 s1 ok p1 => ?_⟩
          · cases ht'
            exact ⟨ds, hc⟩
          · refine call_core rfl st1 s1 ok hf fun v G2 H2 P2 P3 A st3 s3 o n b pu _ _ _ _ => ?_
            exact k v G2 H2 P3 A st3 s3 ⟨o, fun i a ha => n i a ha⟩ b fun hpu => (p1 hpu).trans (pu hpu)
        · cases e
      · cases e
    · cases e
  · cases e
theorem meth_eval (hb : baseOk o = true) (hl : (apos.endLine == pos.line) = true) (hn : noStars es = true) (hlen : es.length < 29) : eval (.Call (.Attribute o m apos) es [] pos) X.env = (do
      let ov ← eval o X.env
      standAt apos.atName
      let (f, first) ← holding [ov] (getMethod ov m (do return (← importBound o X.env).getD true))
      callWith pos f first (backTo pos (starEach es X.env)) (backToKw pos (keywordEach [] X.env))) := by
  have hs : (backTo pos (starEach es X.env)).all (!·.1) = true := by
    have := star_no hn (env := X.env) (pos := pos)
    rw [List.any_eq_false] at this
    rw [List.all_eq_true]
    intro x hx
    have h1 := this x hx
    simpa using h1
  have hf : methodCallForm (es.length + ([] : List Keyword).length) (backTo pos (starEach es X.env)) (backToKw pos (keywordEach [] X.env)) = true := by
    unfold methodCallForm
    rw [hs]
    have : (backToKw pos (keywordEach [] X.env)) = [] := rfl
    rw [this]
    simp
    omega
  show (do
    let ov ← attributeBase o m X.env (eval o X.env)
    standAt apos.atName
    methodCall o m apos pos X.env ov (es.length + ([] : List Keyword).length) (backTo pos (starEach es X.env)) (backToKw pos (keywordEach [] X.env))) = _
  rw [base_ok hb]
  unfold methodCall calleeOf methodCallPos
  rw [hf, hl]
  simp
/-- modes of the receiver -/
def recv (X : Cx) (C : Ct) (o : Expr) : Ar → List Bool → Ar → List Bool → Prop
  | .ci ee as, false :: io, as', io' => as' = as ∧ io' = io ∧ PE X o (tE C ee)
  | .ct ee as, true :: io, as', io' => as' = as ∧ io' = io ∧ PE X o (tE C ee)
  | .cx i as, true :: io, as', io' => as' = as ∧ io' = io ∧ PE X o (tVar i)
  | _, _, _, _ => False
theorem ge_meth {ms : Nat → Option Fn} {k : Nat} {io io' : List Bool} {as' : Ar} (hms : ∀ c f, ms c = some f → f.io = io ∧ MOk X.prog X.w X.K X.mg X.base C k c m f) (hr : Room k X.A) (hb : baseOk o = true) (hl : (apos.endLine == pos.line) = true) (hn : noStars es = true) (hlen : es.length < 29)
    (h0 : es = [] → as' = .nil ∧ io' = []) (hrc : recv X C o as io as' io') (ha : PA X es (tAr C io' as')) : PE X (.Call (.Attribute o m apos) es [] pos) (tE C (.meth ms as)) := by
  have px : Passes CX0 X (fun _ _ _ => False) := fun _ _ _ _ _ _ _ h => h.elim
  have main : ∀ (ta : TE), PE X o ta → (∀ σ H (Q : List V → Hp → Prop) (K : T → Prop) (I : V → Hp → Prop), (∀ t v A G H, Same G H → Own C G H t v A → K t → I v H) → tAr C io as K σ H Q → ta σ H fun v H1 => I v H1 ∧ tAr C io' as' (fun _ => True) σ H1 fun vs H2 => Q (v :: vs) H2) →
      (∀ σ H (Q Q' : VK), (∀ v H, Q v H → Q' v H) → ta σ H Q → ta σ H Q') → PE X (.Call (.Attribute o m apos) es [] pos) (tE C (.meth ms as)) := by
    intro ta hta hsplit hmono
    have one : ∀ (i : { q : Nat × Fn // ms q.1 = some q.2 }), PE X (.Call (.Attribute o m apos) es [] pos) (fun σ H Q => tAr C io as (fun t => ∃ ds, t.toD = .obj i.1.1 ds) σ H fun vs H1 => spFn C i.1.2 vs H1 Q (fun _ _ _ => False)) := by
      rintro ⟨⟨c, f⟩, hc⟩
      obtain ⟨_, M⟩ := hms c f hc
      obtain ⟨fa, fd, ps, cl, me, F, hbd, nf⟩ := M.ex
      cases es with
      | nil =>
        obtain ⟨e1, e2⟩ := h0 rfl
        refine PE.imp (pe_meth0 hta cl me F hr hbd .nil px (meth_eval hb hl hn hlen)) fun σ H Q q => ?_
        have q' := hsplit σ H _ _ (InsAt C c) (fun t v A G H g o ⟨ds, h⟩ => toDs_obj g o h) q
        refine hmono σ H _ _ (fun v H1 z => ?_) q'
        obtain ⟨⟨a, dx, vs, rfl, ha1⟩, z2⟩ := z
        rw [e1, e2] at z2
        exact ⟨a, dx, _, rfl, ha1, zip_lookup_no nf, tAr_nil z2⟩
      | cons e es =>
        simp only [noStars, List.all_cons, Bool.and_eq_true] at hn
        refine PE.imp (pe_meth hta cl me F hr hbd .nil px ha (star_cons hn.1) (star_no (by unfold noStars; exact hn.2)) (meth_eval hb hl (by simp only [noStars, List.all_cons, Bool.and_eq_true]; exact hn) hlen)) fun σ H Q q => ?_
        have q' := hsplit σ H _ _ (InsAt C c) (fun t v A G H g o ⟨ds, h⟩ => toDs_obj g o h) q
        refine hmono σ H _ _ (fun v H1 z => ?_) q'
        obtain ⟨⟨a, dx, vs, rfl, ha1⟩, z2⟩ := z
        refine ⟨a, dx, _, rfl, ha1, zip_lookup_no nf, ?_⟩
        obtain ⟨G, P, r, ts, r1, st, he, hK, kk⟩ := z2
        exact ⟨G, P, r, ts, r1, st, he, hK, fun vs' G1 H1 P1 As st1 s1 ok p1 => by
          show spFn C f (.ref a :: (vs' ++ [])) _ _ _
          rw [List.append_nil]
          exact kk vs' G1 H1 P1 As st1 s1 ok p1⟩
    refine PE.imp (PE.any one) fun σ H Q q => ?_
    obtain ⟨c, f, hc, q'⟩ := meth_read (E := fun _ _ _ => False) q
    have hio := (hms c f hc).1
    rw [hio] at q'
    exact ⟨⟨(c, f), hc⟩, q'⟩
  cases as with
  | nil => exact hrc.elim
  | ci ee as =>
    cases io with
    | nil => exact hrc.elim
    | cons b io =>
      cases b with
      | true => exact hrc.elim
      | false =>
        obtain ⟨e1, e2, e3⟩ := hrc
        subst e1; subst e2
        exact main _ e3 (fun σ H Q K I hI q => split_ci hI q) fun σ H Q Q' hQ q => tE_mono q hQ
  | ct ee as =>
    cases io with
    | nil => exact hrc.elim
    | cons b io =>
      cases b with
      | false => exact hrc.elim
      | true =>
        obtain ⟨e1, e2, e3⟩ := hrc
        subst e1; subst e2
        exact main _ e3 (fun σ H Q K I hI q => split_ct hI q) fun σ H Q Q' hQ q => tE_mono q hQ
  | cx i as =>
    cases io with
    | nil => exact hrc.elim
    | cons b io =>
      cases b with
      | false => exact hrc.elim
      | true =>
        obtain ⟨e1, e2, e3⟩ := hrc
        subst e1; subst e2
        exact main _ e3 (fun σ H Q K I hI q => split_cx hI q) fun σ H Q Q' hQ ⟨v, h1, h2⟩ => ⟨v, h1, hQ _ _ h2⟩
end
end FJ

/-! Tuples whose parts are owned, their items; a try that runs through; a written dict walked. -/
namespace FJ
open PySem L2
section
variable {C : Ct} {G H G1 H1 H0 : Hp} {P P0 P1 : Nat → Addr → Prop} {r r' : Env} {σ : St} {io : List Bool} {as : Ar} {ts : List T} {vs : List V} {As : List (Addr → Prop)}
theorem ArgOk.owns (h : ArgOk C G H P P0 H0 σ io as ts vs As) : ∃ B, Owns C G H ts vs B ∧ ∀ a, B a → ∃ A ∈ As, A a := by
  induction h with
  | nil => exact ⟨fun _ => False, .nil fun _ z => z, fun _ z => z.elim⟩
  | ci rp _ ih =>
    obtain ⟨B, o, hB⟩ := ih
    exact ⟨fun a => False ∨ B a, .cons (.fr rp fun _ z => z) o (fun _ z => z.elim) fun a => Iff.rfl, fun a z => z.elim (fun z => z.elim) fun z => let ⟨A, h1, h2⟩ := hB a z; ⟨A, List.mem_cons_of_mem _ h1, h2⟩⟩
  | @cx _ _ _ _ _ _ _ A As _ ow _ _ d _ ih =>
    obtain ⟨B, o, hB⟩ := ih
    exact ⟨fun a => A a ∨ B a, .cons ow o (fun a ha hb => let ⟨A', h1, h2⟩ := hB a hb; d A' h1 a ha h2) fun a => Iff.rfl, fun a z => z.elim (fun z => ⟨A, List.mem_cons_self .., z⟩) fun z => let ⟨A, h1, h2⟩ := hB a z; ⟨A, List.mem_cons_of_mem _ h1, h2⟩⟩
  | @ct _ _ _ _ _ _ _ A As ow _ _ d _ ih =>
    obtain ⟨B, o, hB⟩ := ih
    exact ⟨fun a => A a ∨ B a, .cons ow o (fun a ha hb => let ⟨A', h1, h2⟩ := hB a hb; d A' h1 a ha h2) fun a => Iff.rfl, fun a z => z.elim (fun z => ⟨A, List.mem_cons_self .., z⟩) fun z => let ⟨A, h1, h2⟩ := hB a z; ⟨A, List.mem_cons_of_mem _ h1, h2⟩⟩
theorem Owns.get : ∀ {ts : List T} {vs : List V} {B : Addr → Prop} {k : Nat} {t : T}, Owns C G H ts vs B → ts[k]? = some t → ∃ v A, vs[k]? = some v ∧ Own C G H t v A ∧ ∀ a, A a → B a
  | _, _, _, _, _, .nil _, e => by simp at e
  | _, _, _, 0, _, .cons o _ _ hd, e => by
    simp at e; subst e
    exact ⟨_, _, rfl, o, fun a z => (hd a).mpr (.inl z)⟩
  | _, _, _, k + 1, _, .cons _ os _ hd, e => by
    obtain ⟨v, A, h1, h2, h3⟩ := Owns.get os (by simpa using e)
    exact ⟨v, A, by simpa using h1, h2, fun a z => (hd a).mpr (.inr (h3 a z))⟩
/-- a part that is one object is changed -/
theorem Owns.upd {d : D} : ∀ {ts : List T} {vs : List V} {B : Addr → Prop} {k : Nat}, Owns C G H ts vs B → ts[k]? = some (.ow d) → ∃ q o, vs[k]? = some (.ref q) ∧ H q = some o ∧ G q = none ∧ Flat C G d o ∧ B q ∧ ∀ d' o', Flat C G d' o' → Owns C G (upd H q o') (ts.set k (.ow d')) vs B
  | _, _, _, _, .nil _, e => by simp at e
  | _, _, _, 0, .cons o os hn hd, e => by
    simp at e; subst e
    cases o with
    | @ow _ q ob A h1 h2 h3 h4 =>
      refine ⟨q, ob, rfl, h1, h2, h3, (hd q).mpr (.inl ((h4 q).mpr rfl)), fun d' o' f => ?_⟩
      refine .cons (.ow upd_same h2 f h4) (Owns.mono (Same.refl G) os (fun a ha => (Owns.dom os ha).1) fun a u ha e => ?_) hn hd
      rw [upd_ne (fun z => hn q ((h4 q).mpr rfl) (by rw [← z]; exact ha))]; exact e
  | _, _, _, k + 1, .cons o os hn hd, e => by
    obtain ⟨q, ob, h1, h2, h3, h4, h5, h6⟩ := Owns.upd os (by simpa using e)
    refine ⟨q, ob, by simpa using h1, h2, h3, h4, (hd q).mpr (.inr h5), fun d' o' f => ?_⟩
    refine .cons (Own.mono (Same.refl G) o (fun a ha => (Own.dom o ha).1) fun a u ha e => ?_) (h6 d' o' f) hn hd
    rw [upd_ne (fun z => hn q (by rw [← z]; exact ha) h5)]; exact e
theorem Sst.updP {G H : Hp} {P : Nat → Addr → Prop} {r : Env} {σ : St} {i : Nat} {t t' : T} {v : V} {p : Addr} {o' : HO} (st : Sst C G H P r σ) (hi : r[i]? = some (some t)) (hv : σ[i]? = some (some v)) (hp : P i p) (f : Own C G (upd H p o') t' v (P i)) :
    Sst C G (upd H p o') P (r.set i (some t')) σ ∧ Stp G H P G (upd H p o') P := by
  obtain ⟨hG, hH⟩ := st.dom hp
  refine ⟨⟨by rw [List.length_set]; exact st.len, fun a u e => by rw [upd_ne (fun z => by rw [z, hG] at e; cases e)]; exact st.gh a u e, fun j t hj => ?_, fun j a hj => ?_, st.dj⟩, Same.refl _, fun a u e n => by rw [upd_ne (fun z => n i (by rw [z]; exact hp))]; exact e, fun a e => ?_, fun j a h => .inl ⟨j, h⟩, fun a h n => (n h).elim⟩
  · rcases getSet hj with ⟨rfl, ht, _⟩ | ⟨hne, hj⟩
    · cases ht
      exact ⟨v, hv, f⟩
    · obtain ⟨v, h1, h2⟩ := st.sl j t hj
      refine ⟨v, h1, Own.mono (Same.refl G) h2 (fun a h => (Own.dom h2 h).1) fun a u ha e => ?_⟩
      rw [upd_ne (fun z => hne (st.dj _ _ _ hp (by rw [← z]; exact ha)))]; exact e
  · obtain ⟨t, ht⟩ := st.pe j a hj
    by_cases hji : i = j
    · subst hji
      exact ⟨_, List.getElem?_set_self (ltOf hi)⟩
    · exact ⟨t, by rw [List.getElem?_set_ne hji]; exact ht⟩
  · by_cases ha : a = p
    · rw [ha, upd_same] at e; cases e
    · rw [upd_ne ha] at e; exact e
end
section
variable {X : Cx} {C : Ct} {a b e tg : Expr} {es : List Expr} {ea eb ee : E} {as : Ar} {io : List Bool} {p pos apos cpos : Pos}
theorem ge_tupo {k : Nat} (hs : PA X es (tAr C io as)) : PE X (.Tuple es k pos) (tE C (.tupo as)) := by
  refine PE.imp (pe_tup hs) fun σ H Q ⟨G, P, r, y, r', st, e, k⟩ => ?_
  simp only [ev] at e
  split at e
  · rename_i ts r1 h1
    split at e
    · rename_i hl
      cases e
      refine ⟨G, P, r, ts, _, st, h1, fun _ _ => trivial, fun vs G1 H1 P1 As st1 s1 ok p1 => ⟨by rw [ok.len.2.1]; exact hl, fun p hp => ?_⟩⟩
      obtain ⟨B, o, hB⟩ := ok.owns
      have base := ok.base
      have g : Grow G1 H1 G1 (upd H1 p (.tup vs)) := Grow.nu st1.gh hp
      have hb : ∀ a, B a → ((∃ j, P j a) ∨ H a = none) ∧ ∀ j, ¬ P1 j a := fun a z => by
        obtain ⟨A, q1, q2⟩ := hB a z
        exact ⟨(base A q1 a q2).1, (base A q1 a q2).2.2.2⟩
      refine k (.ref p) G1 (upd H1 p (.tup vs)) P1 (fun a => a = p ∨ B a) (st1.grow g) (s1.trans (Stp.grow g)) ⟨.nt upd_same (Same.no st1.gh hp) (Owns.mono (Same.refl _) o (fun a ha => (Owns.dom o ha).1) fun a u ha e => g.hh a u e) (fun z => (Owns.dom o z).2 hp) (fun a => Iff.rfl), fun i a ha hi => ?_⟩ (fun a ha => ?_) (fun h => by cases h)
      · rcases ha with rfl | ha
        · exact (st1.dom hi).2 hp
        · exact (hb a ha).2 i hi
      · rcases ha with rfl | ha
        · exact .inr (s1.ld _ hp)
        · exact (hb a ha).1
    · cases e
  · cases e
theorem Res.brw {G H : Hp} {P : Nat → Addr → Prop} {i : Nat} {t : T} {v : V} {B : Addr → Prop} (o : Own C G H t v B) (h : ∀ a, B a → P i a) : Res C G H P (brw i t) v (fun _ => False) := by
  have gen : (∀ d, t ≠ .fr d) → Res C G H P (FJ.brw i t) v (fun _ => False) := fun hn => by
    have : FJ.brw i t = .b i t := by cases t <;> first | rfl | exact (hn _ rfl).elim
    rw [this]
    exact ⟨fun _ z => z, B, o, h⟩
  cases t with
  | fr d =>
    cases o with
    | fr rp _ => exact Res.fr rp
  | _ => exact gen fun d z => by cases z
theorem ge_sub {k : Nat} {u : Nat} {kp : Pos} (hK : X.K = C.K) (hw : X.w = C.w) (hu : X.A.units + 64 < cLine) (ha : PE X a (tE C ea)) : PE X (.Subscript a (.Constant (.int (Int.ofNat k)) u kp) pos) (tE C (.sub ea k)) := by
  have hb : PE X (.Constant (.int (Int.ofNat k)) u kp) (tE C (.cst (.int (Int.ofNat k)))) := ge_cst pe_int fun _ _ _ _ _ _ => .int
  have hb2 : PE X (.Constant (.int (Int.ofNat k)) u kp) (tC (.int (Int.ofNat k))) := pe_int
  refine PE.imp (FJ.PE.or' (ge_idx hK hw hu ha hb rfl) (pe_ix ix_tup ha hb2 (plainIx rfl))) fun σ H Q ⟨G, P, r, y, r', st, e, kk⟩ => ?_
  simp only [ev] at e
  cases hs : subO (ev ea r) k with
  | none =>
    rw [hs] at e
    refine .inl ⟨G, P, r, y, r', st, ?_, ?_⟩
    · simp only [ev]; exact e
    · have : (E.idx ea (.cst (.int (Int.ofNat k)))).pu = (E.sub ea k).pu := by simp [E.pu]
      rw [this]; exact kk
  | some q =>
    rw [hs] at e
    have e' : q = .ok y r' := e
    subst e'
    unfold subO at hs
    split at hs
    · rename_i i ts r1 h1
      split at hs
      · rename_i t ht
        cases hs
        refine .inr (tE_at st h1 fun v1 G1 H1 P1 A st1 s1 res hA p1 => ?_)
        obtain ⟨_, B, o, hB⟩ := res
        cases o with
        | @nt _ p vs _ B' h1 h2 os hn hd =>
          obtain ⟨w, A', q1, q2, q3⟩ := Owns.get os ht
          refine ⟨p, vs, (k : Int), w, rfl, rfl, SqT.of h1, ?_, ?_⟩
          · unfold atI ixN
            have hk : k < vs.length := ltOf q1
            rw [if_pos (by omega), if_pos (by omega)]
            simpa using q1
          · exact kk w G1 H1 P1 _ st1 s1 (Res.brw q2 fun a z => hB a ((hd a).mpr (.inr (q3 a z)))) (fun _ z => z.elim) (fun h => p1 (by simpa [E.pu] using h))
      · cases hs
    · cases hs
theorem gs_appP {i k : Nat} {x : Str} {np spos kp : Pos} {u : Nat} (hN : X.N[i]? = some x) (hv : Vis X.env.scope x) (hd : (x == ("__debug__" : Str)) = false) (hcd : (x == ("__classdict__" : Str)) = false) (hl : (apos.endLine == cpos.line) = true) (hn : notStar e = true) (he : PE X e (tE C ee)) :
    PS X (.Expr (.Call (.Attribute (.Subscript (.Name x np) (.Constant (.int (Int.ofNat k)) u kp) spos) "append" apos) [e] [] cpos) pos) (tS C (.appP i k ee)) := by
  have hb2 : PE X (.Constant (.int (Int.ofNat k)) u kp) (tC (.int (Int.ofNat k))) := pe_int
  refine PS.imp (ps_expr (pe_bm PySem.F.plainAttrs_list PySem.F.slot_list_append PySem.F.type_list_append mt_append (pe_ix ix_tup (pe_var hN hv hd hcd) hb2 (plainIx rfl)) (pa_cons he pa_nil (star_cons hn)) rfl (few1 hn) hl (star_cons hn) rfl)) fun D σ H ⟨G, P, r, st, kk⟩ => ?_
  simp only [evS] at kk
  split at kk
  case isFalse => exact kk.elim
  rename_i hpu
  split at kk
  · rename_i ts0 h0
    split at kk
    · rename_i ds0 hd0
      split at kk
      · rename_i x r1 h1
        split at kk
        · rename_i ts h2
          split at kk
          · rename_i ds h3
            split at kk
            · rename_i hz
              obtain ⟨v0, e0, o0⟩ := st.sl i _ h0
              cases o0 with
              | @nt _ p vs _ B hp hg os hnB hdB =>
                obtain ⟨q, ob, q1, q2, q3, q4, q5, _⟩ := Owns.upd os hd0
                refine ⟨.ref p, e0, p, vs, (k : Int), .ref q, rfl, rfl, SqT.of hp, ?_, ?_, tE_settle st h1 fun w G1 P1 H1 st1 s1 rp1 pu1 => ?_⟩
                · unfold atI ixN
                  have hk : k < vs.length := ltOf q1
                  rw [if_pos (by omega), if_pos (by omega)]
                  simpa using q1
                · cases q4 with
                  | lst rs => exact .inl ⟨rfl, _, SqL.of q2⟩
                · obtain ⟨v1, e1, o1⟩ := st1.sl i _ h2
                  rw [e0] at e1
                  cases e1
                  cases o1 with
                  | @nt _ _ vs1 _ B1 hp1 hg1 os1 hnB1 hdB1 =>
                    obtain ⟨qq, ob1, w1, w2, w3, w4, w5, w6⟩ := Owns.upd os1 h3
                    have ev1 := pu1 hpu p _ hp
                    rw [hp1] at ev1
                    cases ev1
                    rw [q1] at w1
                    cases w1
                    cases w4 with
                    | @lst _ ws rs =>
                      have hPq : P1 i q := (hdB1 q).mpr (.inr w5)
                      have hpq : p ≠ q := fun z => hnB1 (by rw [z]; exact w5)
                      have o' : Own C G1 (upd H1 q (.lst (ws ++ [w]))) (.nt (ts.set k (.ow (.lst (ds ++ [x.toD]))))) (.ref p) (P1 i) :=
                        .nt (by rw [upd_ne hpq]; exact hp1) hg1 (w6 _ _ (.lst (Reps.app rs (Reps.one rp1)))) hnB1 hdB1
                      obtain ⟨st2, s2⟩ := st1.updP h2 e0 hPq o'
                      exact ⟨q, _, w, rfl, rfl, w2, by rw [← Reps.length rs]; exact hz, kk σ G1 _ P1 st2 (s1.trans s2) Fr.refl⟩
            · exact kk.elim
          · exact kk.elim
        · exact kk.elim
      · exact kk.elim
    · exact kk.elim
  · exact kk.elim
/-! ### what is read is lent -/
theorem Sst.later {G H H' : Hp} {P : Nat → Addr → Prop} {r : FJ.Env} {σ : St} (st : Sst C G H P r σ) (s : Same H H') : Sst C G H' P r σ ∧ Stp G H P G H' P :=
  ⟨⟨st.len, st.gh.trans s, fun i t e => by
    obtain ⟨v, h1, h2⟩ := st.sl i t e
    exact ⟨v, h1, Own.mono (Same.refl G) h2 (fun a h => (Own.dom h2 h).1) fun a u _ e => s a u e⟩, st.pe, st.dj⟩, Same.refl _, fun a u e _ => s a u e, fun a e => Same.no s e, fun j a h => .inl ⟨j, h⟩, fun a h n => (n h).elim⟩
theorem Res.atom {G H : Hp} {P : Nat → Addr → Prop} {x : Val} {v : V} {A : Addr → Prop} {G' : Hp} (h : atomD x.toD = true) (res : Res C G H P x v A) : Rep C G' x.toD v := by
  have gen : ∀ {t : T} {B : Addr → Prop}, atomD t.toD = true → Own C G H t v B → Rep C G' t.toD v := by
    intro t B ht o
    cases o with
    | fr rp _ => cases rp <;> first | (cases ht; done) | constructor
    | ow _ _ f _ => cases f <;> cases ht
    | nl _ _ _ _ _ => cases ht
    | nt _ _ _ _ _ => cases ht
    | nd _ _ _ _ _ _ => cases ht
    | no _ _ _ _ _ => cases ht
  cases x with
  | v t => exact gen h res.1
  | b i t =>
    obtain ⟨_, B, o, _⟩ := res
    exact gen h o
theorem ge_lend (ha : PE X a (tE C ea)) : PE X a (tE C (.lend ea)) := by
  refine PE.imp ha fun σ H Q ⟨G, P, r, y, r', st, e, k⟩ => ?_
  simp only [ev] at e
  split at e
  · rename_i x r1 h1
    split at e
    · rename_i hc
      cases e
      simp only [Bool.and_eq_true] at hc
      refine tE_at st h1 fun v1 G1 H1 P1 A st1 s1 res hA p1 => ?_
      obtain ⟨st2, s2⟩ := st.later (p1 hc.1)
      exact k v1 G H1 P _ st2 s2 (Res.fr (Res.atom hc.2 res)) (fun _ z => z.elim) fun _ => p1 hc.1
    · cases e
  · cases e
theorem gt_lend (ha : PT X a (tT C ea)) : PT X a (tT C (.lend ea)) := by
  refine PT.imp ha fun σ H Q ⟨G, P, r, b, r', st, e, k⟩ => ?_
  obtain ⟨x, r1, h1, h2, rfl⟩ := R.tru_ok e
  simp only [ev] at h1
  split at h1
  · rename_i y r2 h3
    split at h1
    · rename_i hc
      cases h1
      simp only [Bool.and_eq_true] at hc
      have h2' : truD y.toD = some b := by simpa [Val.toD, T.toD] using h2
      refine ⟨G, P, r, b, _, st, by rw [h3]; exact R.tru_of h2', fun G1 H1 P1 st1 s1 p1 => ?_⟩
      obtain ⟨st2, s2⟩ := st.later (p1 hc.1)
      exact k G H1 P st2 s2 fun _ => p1 hc.1
    · cases h1
  · cases h1
/-! ### try, raise -/
theorem tS_seq {sa sb : S} {D : Ends} {σ : St} {H : Hp} (h : tS C (.tryE sa sb) D σ H) : tS C sa { D with nx := tS C sb D } σ H := by
  obtain ⟨G, P, r, st, k⟩ := h
  refine tS_seq0 ⟨G, P, r, st, ?_⟩
  simp only [evS, S.asgs] at k ⊢
  exact k
theorem gs_try {body orelse : List Stmt} {h₀ : ExceptHandler} {hs : List ExceptHandler} {sa sb : S} (hb : PSs X.nox body (tS C sa)) (ho : PSs X orelse (tS C sb)) : PS X (.Try body (h₀ :: hs) orelse [] pos) (tS C (.tryE sa sb)) :=
  PS.imp (ps_try_thru hb ho) fun D σ H q => tS_seq q
theorem gs_raise {st : Stmt} : PS X st (tS C .raise) := PS.imp ps_never fun D σ H ⟨G, P, r, _, k⟩ => by
  simp only [evS] at k
  exact k.elim
/-! ### a written dict walked -/
def Itkd (ks : List Str) (vs : List V) : L2.It :=
  ⟨fun i _ => i < ks.length, fun i H x H' => ∃ T k v, ks[i]? = some k ∧ vs[i]? = some v ∧ x = .ref T ∧ H T = none ∧ H' = upd H T (.tup [.str k, v]), fun i _ => ks.length ≤ i⟩
theorem kpairs_of {P : Program} {w : World} : ∀ {es : List DictEntry} {ks : List Str} {vs : List V}, KPairs es ks vs → ∃ kvs : List (Str × Value), Pairs (strKind P w) es kvs ∧ kvs.map (·.1) = ks ∧ vs.length = ks.length ∧ ∀ (i : Nat) (k : Str) (u : Value), kvs[i]? = some (k, u) → ks[i]? = some k ∧ ∃ v, vs[i]? = some v ∧ RelV v u
  | _, _, _, .nil => ⟨[], .nil, rfl, rfl, fun i k u h => by simp at h⟩
  | e :: es, k :: ks, v :: vs, .cons (t := t) h1 h2 h3 => by
    obtain ⟨kvs, a1, a2, a3, a4⟩ := kpairs_of (P := P) (w := w) h3
    refine ⟨(k, e.val) :: kvs, .cons (by rw [h1]; exact strKind_is P w k t) rfl a1, by simp [a2], by simp [a3], fun i q u hh => ?_⟩
    cases i with
    | zero => simp at hh; obtain ⟨rfl, rfl⟩ := hh; exact ⟨rfl, v, rfl, h2⟩
    | succ i => simpa using a4 i q u (by simpa using hh)
theorem kits_at {P : Program} {w : World} {K : PySem.W.Frag} {h : Heap} {p : Addr} {ks : List Str} {vs : List V} (X : K.In h) (kk : KIts K w p ks vs) : ∃ (n : Nat) (kvs : List (Str × Value)), h.DictAt (strKind P w) p kvs n ∧ kvs.length = ks.length ∧ vs.length = ks.length ∧ ∀ (i : Nat) (k : Str) (u : Value), kvs[i]? = some (k, u) → ks[i]? = some k ∧ ∃ v, vs[i]? = some v ∧ RelV v u := by
  obtain ⟨es, n, D, nd, kp⟩ := kk
  obtain ⟨kvs, a1, a2, a3, a4⟩ := kpairs_of (P := P) (w := w) kp
  have hl : kvs.length = ks.length := by rw [← a2, List.length_map]
  refine ⟨n, kvs, ⟨_, es, X _ _ D.at_, ⟨rfl, rfl, rfl⟩, rfl, fun e he => ?_, a1, by rw [a2]; exact nd⟩, hl, a3, a4⟩
  obtain ⟨x, t, e1, e2⟩ := D.lit.all e (Array.mem_toList_iff.mpr he)
  exact ⟨x, by rw [e1]; exact strKind_is P w x t, e2⟩
theorem turn_kd {P : Program} {w : World} {K : PySem.W.Frag} {elts : List Expr} {kk : Nat} {tpos : Pos} {d : Addr} {ks : List Str} {vs : List V} {n m : Nat} (it : Addr) (hd : KIts K w d ks vs) (hn : ∀ h, K.In h → ∃ kvs : List (Str × Value), h.DictAt (strKind P w) d kvs n ∧ kvs.length = ks.length ∧ vs.length = ks.length ∧ ∀ (i : Nat) (k : Str) (u : Value), kvs[i]? = some (k, u) → ks[i]? = some k ∧ ∃ v, vs[i]? = some v ∧ RelV v u) (hm : m = ks.length) :
    Turn P w K (.Tuple elts kk tpos) (Itkd ks vs) [it] it (fun i h => ∃ ok ov, IsItemIter h it d i m n ok ov) where
  mem := by simp
  obj := fun i h st b hb => by
    have e : b = it := by simpa using hb
    subst e
    obtain ⟨ok, ov, e⟩ := st
    exact ⟨_, e, fun v z => nomatch z⟩
  keep := fun i h h' st k => let ⟨ok, ov, e⟩ := st; ⟨ok, ov, k it (by simp) _ e⟩
  item := by
    intro X hP hw hK hc i pins s σ H E I hf st hi
    subst hP hw hK
    have hi' : i < ks.length := hi
    obtain ⟨kvs, hat, hl, hv, hg⟩ := hn _ I.kIn
    obtain ⟨⟨k, u⟩, hku⟩ : ∃ q, kvs[i]? = some q := ⟨kvs[i], List.getElem?_eq_getElem (by omega)⟩
    obtain ⟨hk, v, hvv, ru⟩ := hg i k u hku
    obtain ⟨ok, ov, he⟩ := st
    have em : m = kvs.length := by omega
    subst em
    have hlt : it < s.heap.objs.size := Heap.lt_size he
    refine wpAny_pyNext_items_item he hat hku fun key h' hkey ho hT hz hkp => ?_
    refine ⟨_, rfl, wpAny_letOwnedTupleGo_items (s := { s with heap := h' }) ho fun h'' he' sb => ?_⟩
    have hT2 : h''.get? s.heap.objs.size = some { cls := .type "tuple", data := .seq #[key, u] } := (sb.2 _ (Nat.ne_of_gt hlt)).trans hT
    have rk : RelV (.str k) key := by
      cases key with
      | str x t =>
        have := (strKind X.prog X.w).inj _ _ _ hkey (strKind_is X.prog X.w x t)
        subst this
        exact ⟨t, rfl⟩
      | _ => cases hkey
    have new : ObjOk X.prog X.w (upd H s.heap.objs.size (.tup [.str k, v])) h'' s.heap.objs.size (.tup [.str k, v]) :=
      ⟨by show 2 ≤ sizeLine; decide, [key, u], .cons rk (.cons ru .nil), ⟨_, hT2, rfl, _, rfl⟩⟩
    have I1 : Inv X pins σ (upd H s.heap.objs.size (.tup [.str k, v])) { s with heap := h'' } :=
      I.turnedNew (t' := s.toks) (ch := [it]) (fun b ob hb e => (sb.2 b (by simpa using hb)).trans (hkp b ob (by simpa using hb) e)) hf (Nat.le_refl _) new
    refine ⟨.ref s.heap.objs.size, _, I1, rfl, ⟨_, k, v, hk, hvv, rfl, I.hok.fresh (Nat.le_refl _), rfl⟩, ⟨key, u, he'⟩, fun b hb => ?_⟩
    have e : b = it := by simpa using hb
    rw [e, upd_ne (Nat.ne_of_lt hlt)]
    exact (hf it (by simp)).1
  done := by
    intro X hP hw hK hc i pins s σ H E I hf st hi
    subst hP hw hK
    have hi' : ks.length ≤ i := hi
    obtain ⟨f0, f1, f2, f3, f4, f5⟩ := hf it (by simp)
    obtain ⟨kvs, hat, hl, hv, hg⟩ := hn _ I.kIn
    obtain ⟨ok, ov, he⟩ := st
    have em : m = kvs.length := by omega
    subst em
    exact wpAny_pyNext_items_end (I.ok.hd hc) he hat (List.getElem?_eq_none (by omega)) fun h' eb => ⟨rfl, I.turned (t' := s.toks) (fun b ob hb e => eb b ob hb e) f0 f1 f3 f4 f5⟩
  self := fun A i s Q E st h => let ⟨_, _, e⟩ := st; PySem.W.kcp_self e h
def iKdItems (C : Ct) (td : TE) : TI := fun σ H R => td σ H fun x H1 => ∃ d ks vs, x = .ref d ∧ KIts C.K C.w d ks vs ∧ R (Itkd ks vs) H1
theorem pi_kditems {elts : List Expr} {kk : Nat} {tpos : Pos} {td : TE} (hK : X.K = C.K) (hw : X.w = C.w) (he : PE X e td) (hbase : attributeBase e "items" X.env (eval e X.env) = eval e X.env) (hline : (apos.endLine == cpos.line) = true) :
    PI X (.Tuple elts kk tpos) (.Call (.Attribute e "items" apos) [] [] cpos) (iKdItems C td) := by
  refine ⟨fun pins s σ H R I h => ?_⟩
  refine wpAny_Call_method (T := "dict") (id := "dict.items") hbase rfl hline F.plainAttrs_dict F.slot_dict_items F.type_dict_items (thn (he.run pins s σ H _ I h) fun u s1 ⟨x, H1, I1, rx, d, ks, vs, ex, hd, q⟩ => ?_)
  subst ex
  obtain rfl : u = Value.ref d := rx
  rw [← hK, ← hw] at hd
  obtain ⟨es, n, D, nd, kp⟩ := id hd
  have hn : ∀ h, X.K.In h → ∃ kvs : List (Str × Value), h.DictAt (strKind X.prog X.w) d kvs n ∧ kvs.length = ks.length ∧ vs.length = ks.length ∧ ∀ (i : Nat) (k : Str) (u : Value), kvs[i]? = some (k, u) → ks[i]? = some k ∧ ∃ v, vs[i]? = some v ∧ RelV v u := fun h hin => by
    obtain ⟨n', kvs, a1, a2⟩ := kits_at (P := X.prog) hin ⟨es, n, D, nd, kp⟩
    obtain ⟨o, es', b1, b2, b3, b4⟩ := a1
    have := hin _ _ D.at_
    rw [this] at b1
    cases b1
    cases b3
    exact ⟨kvs, ⟨_, _, this, b2, rfl, b4⟩, a2⟩
  obtain ⟨kvs, hat, hl, _⟩ := hn _ I1.kIn
  refine ⟨hat.dictOf.typeIs, hat.dictOf.mapOf.noDict, ?_⟩
  have I2 : Inv X pins σ H1 { s1 with heap := s1.heap.push { cls := .type "dict_items", data := .fields #[.ref d] } } := I1.kept (t' := s1.toks) fun b ob q => Heap.get?_push_of_some _ q
  have fin : wpAny (model X.prog X.w) X.A (pyIter (.ref s1.heap.objs.size)) (PIE X pins σ (.Tuple elts kk tpos) R) X.xe { s1 with heap := s1.heap.push { cls := .type "dict_items", data := .fields #[.ref d] } } := by
    refine wpAny_pyIter_items (d := d) (knd := strKind X.prog X.w) ⟨_, Heap.get?_push_size _ rfl, rfl, rfl⟩ (hat.push _) (pi_one (tk := s1.toks) I2 _ (turn_kd _ hd hn hl) ⟨.none, .none, ?_⟩ q)
    exact Heap.get?_push_size _ rfl
  show wpAny _ _ (callWith cpos (.builtin "dict.items") [.ref d] [] []) _ X.xe s1
  exact method_meetsIn F.slot_dict_items F.entry_dict_items rfl (PySem.evalArgs_none ⟨rfl, hat.dictOf.typeIs, F.args_dict_items_1 _, _, meets_dict_items (strKind X.prog X.w) d D.low, ⟨kvs, hat.dictOf⟩, fin⟩)
theorem itmsD_len : ∀ {ks : List Str} {ds : List D}, ds.length = ks.length → (itmsD ks ds).length = ks.length
  | [], [], _ => rfl
  | k :: ks, d :: ds, h => by simp [itmsD, itmsD_len (ks := ks) (ds := ds) (by simpa using h)]
  | [], _ :: _, h => by simp at h
  | _ :: _, [], h => by simp at h
theorem itmsD_get : ∀ {ks : List Str} {ds : List D} {i : Nat} {k : Str} {d : D}, ks[i]? = some k → ds[i]? = some d → (itmsD ks ds)[i]? = some (.tup [.str k, d])
  | [], _, _, _, _, h, _ => by simp at h
  | _ :: _, [], _, _, _, _, h => by simp at h
  | _ :: _, _ :: _, 0, _, _, h1, h2 => by simp at h1 h2; subst h1; subst h2; rfl
  | _ :: ks, _ :: ds, i + 1, _, _, h1, h2 => by
    simp only [itmsD, List.getElem?_cons_succ]
    exact itmsD_get (by simpa using h1) (by simpa using h2)
theorem wk_items {G : Hp} {ks : List Str} {ds : List D} {vs : List V} (rs : Reps C G ds vs) (hl : vs.length = ks.length) : Wk C (Itkd ks vs) (itmsD ks ds) (fun _ => True) G := by
  have l := Reps.length rs
  have hn : (itmsD ks ds).length = ks.length := itmsD_len (by omega)
  refine ⟨YPair (fun i => ks[i]?.map V.str) (fun i => vs[i]?), ⟨fun i H hi _ => by rw [hn] at hi; exact hi, fun H _ => by rw [hn]; exact Nat.le_refl _, fun i H x H' hi _ y => ?_⟩, ?_⟩
  · obtain ⟨T, k, v, h1, h2, h3, h4, h5⟩ := y
    exact ⟨T, .str k, v, h3, h4, h5, by simp [h1], h2⟩
  · rintro i H x H' hi ⟨t, y, z, e1, e2, e3, e4, e5⟩ G2 s1 s2
    simp only at e4 e5
    cases hk : ks[i]? with
    | none => rw [hk] at e4; cases e4
    | some k =>
      rw [hk] at e4
      cases e4
      obtain ⟨d, h1, h2⟩ := Reps.getV rs e5
      obtain ⟨G', g, rp⟩ := pair_item (C := C) s2 (.str (s := k)) (Rep.mono s1 h2) e1 e2 e3
      exact ⟨_, G', itmsD_get hk h1, g, rp⟩
theorem gi_itm {elts : List Expr} {kk : Nat} {tpos : Pos} (hK : X.K = C.K) (hw : X.w = C.w) (hb : baseOk e = true) (hl : (apos.endLine == cpos.line) = true) (he : PE X e (tE C ee)) : PI X (.Tuple elts kk tpos) (.Call (.Attribute e "items" apos) [] [] cpos) (tI C (.itm ee)) := by
  refine PI.imp (pi_kditems hK hw he (base_ok hb) hl) fun σ H R ⟨G, P, r, ds, hid, r', st, e, k⟩ => ?_
  simp only [evi] at e
  split at e
  · rename_i x r1 h1
    split at e
    · rename_i ks ds2 ms hx
      cases e
      refine tE_settle st h1 fun v1 G1 P1 H1 st1 s1 rp p1 => ?_
      rw [hx] at rp
      cases rp with
      | @tab p _ _ vs _ z low g1 g2 rs =>
        have hl : vs.length = ks.length := by
          obtain ⟨es, n, _, _, kp⟩ := id z
          exact (kpairs_of (P := X.prog) (w := X.w) kp).choose_spec.2.2.1
        exact ⟨p, ks, vs, rfl, z, k _ G1 H1 P1 _ st1 s1 p1 (wk_items rs hl) trivial (fun _ _ _ _ _ => trivial) trivial⟩
    · cases e
  · cases e
end
end FJ

/-! What the compiler hands on is kept by the text: expressions. -/
namespace FJ
open PySem L2

def GOk (P : Program) (w : World) (K : PySem.W.Frag) (mg : Str → Option Value) (base : Heap) (C : Ct) (k : Nat) (x : Str) : GI → Prop
  | .fn f => ∃ a fd ps, mg x = some (.ref a) ∧ FnOk P w K mg base CX0 k a fd ps (spFn C f) ∧ PySem.W.keepIn K (.ref a) = true ∧ Binds K fd ps []
  | .con d => ∃ u v, mg x = some u ∧ RelV v u ∧ ∀ G, Rep C G d v
  | .blt => mg x = none
  | .cls c fo => ∀ f, fo = some f → NOk P w K mg base C k x c f
structure Good (X : Cx) (C : Ct) (c : Cc) (k : Nat) : Prop where
  hK : X.K = C.K
  hw : X.w = C.w
  hN : X.N = c.N
  nd : c.N.Nodup
  sc : X.env.scope = c.sc
  calm : X.calm = true
  cell : ∀ x, c.cellOk x = true → X.fn x = true
  room : Room k X.A
  g : ∀ x gi, c.g x = some gi → GOk X.prog X.w X.K X.mg X.base C k x gi
  fl : ∀ m q i, c.fl m q = some i → FOk X.K C q m i
  ms : ∀ m io tb, c.ms m = some (io, tb) → ∀ q f, tb q = some f → f.io = io ∧ MOk X.prog X.w X.K X.mg X.base C k q m f

theorem slotOf_ok {x : Str} : ∀ {N : List Str} {i : Nat}, slotOf x N = some i → N[i]? = some x
  | [], _, h => by cases h
  | y :: r, i, h => by
    unfold slotOf at h
    split at h
    · rename_i e; cases h; simp [e]
    · cases hs : slotOf x r with
      | none => rw [hs] at h; cases h
      | some j => rw [hs] at h; cases h; simpa using slotOf_ok hs
theorem visB_ok {sc : Scope} {x : Str} (h : visB sc x = true) : Vis sc x := by
  unfold visB at h
  split at h
  · exact .inl (by assumption)
  · exact .inr (.inl (by assumption))
  · exact .inr (.inr (by assumption))
  · cases h
section
variable {X : Cx} {C : Ct} {c : Cc} {k : Nat} {x : Str} {gi : GI}
theorem gOf_ok (G : Good X C c k) (h : gOf c x = some gi) : Gl X x ∧ (x == ("__debug__" : Str)) = false ∧ x ≠ "__name__" ∧ GOk X.prog X.w X.K X.mg X.base C k x gi := by
  unfold gOf at h
  split at h
  · rename_i hc
    simp only [Bool.and_eq_true, Bool.not_eq_true', decide_eq_true_eq] at hc
    obtain ⟨⟨h1, h2⟩, h3⟩ := hc
    refine ⟨?_, h2, h3, G.g x gi h⟩
    unfold gloB at h1
    show X.env.scope.names.lookup x = some .globalImplicit
    rw [G.sc]
    split at h1
    · assumption
    · cases h1
  · cases h
theorem loc_ok (G : Good X C c k) (h : locB c x = true) : Loc X.env.scope x ∧ (X.fn x = true ∨ X.env.scope.names.lookup x = some .local) := by
  unfold locB at h
  rw [G.sc]
  split at h
  · rename_i e; exact ⟨.inl e, .inr e⟩
  · rename_i e; exact ⟨.inr e, .inl (G.cell x h)⟩
  · cases h
/-- a comprehension's block -/
theorem Good.blk (G : Good X C c k) (s : Shared) (H : Hp) (scope : Scope) (Ca : Addr) (cl : List (Str × Addr)) (fp : List Addr) : Good (X.blk s H scope (compEnvC scope cl Ca X.env) fp) C (inner c scope) k where
  hK := G.hK
  hw := G.hw
  hN := G.hN
  nd := G.nd
  sc := by
    show relS scope X.env.scope = relS scope c.sc
    rw [G.sc]
  calm := G.calm
  cell := fun x h => by
    have : scope.names.lookup x = some .cell := by simpa [inner] using h
    show (scope.names.lookup x == some .cell) = true
    rw [this]; rfl
  room := G.room
  g := G.g
  fl := G.fl
  ms := G.ms
end

/-! ### lists of expressions -/
def PEs (X : Cx) (C : Ct) : List Expr → Es → Prop
  | [], .nil => True
  | e :: es, .cons ee ees => notStar e = true ∧ PE X e (tE C ee) ∧ PEs X C es ees
  | _, _ => False
section
variable {X : Cx} {C : Ct}
theorem PEs.all : ∀ {l : List Expr} {es : Es}, PEs X C l es → PA X l (tEs C es) ∧ PA X l (tEu C es) ∧ noStars l = true
  | [], .nil, _ => ⟨ga_nil, gu_nil, rfl⟩
  | e :: l, .cons ee es, ⟨h1, h2, h3⟩ => by
    obtain ⟨a, b, c⟩ := PEs.all h3
    refine ⟨ga_cons h1 h2 a, gu_cons h1 h2 b, ?_⟩
    simp only [noStars, List.all_cons, h1, Bool.true_and]
    exact c
  | [], .cons _ _, h => h.elim
  | _ :: _, .nil, h => h.elim
end
/-! ### dict displays -/
def tPr (C : Ct) (ks : List Key) (es : Es) : St → Hp → (List (V × V) → Hp → Prop) → Prop := fun σ H Q => ∃ G P r ds r', Sst C G H P r σ ∧ evs es r = .ok ds r' ∧ ∀ vs G' H' P', Sst C G' H' P' r' σ → Stp G H P G' H' P' → Reps C G' ds vs → (es.pu = true → Same H H') → Q ((ks.map kV).zip vs) H'
theorem key_pe {X : Cx} {e : Option Expr} {k : Key} (h : keyE e = some k) : ∃ e', e = some e' ∧ PE X e' (tC (kV k)) := by
  unfold keyE at h
  split at h
  · cases h; exact ⟨_, rfl, pe_str⟩
  · cases h; exact ⟨_, rfl, pe_int⟩
  · cases h
theorem pairs_ok {X : Cx} {C : Ct} {pos : Pos} : ∀ {ks : List (Option Expr)} {vs : List Expr} {k : List Key} {es : Es}, keysE ks = some k → PEs X C vs es → ks.length = vs.length → ks.all (·.isSome) = true ∧ k.length = ks.length ∧ ∃ trs, PPs X pos ks vs trs ∧ ∀ σ H Q, tPr C k es σ H Q → tPairs trs σ H Q
  | [], [], k, .nil, h, _, _ => by
    cases h
    refine ⟨rfl, rfl, [], pps_nil, fun σ H Q ⟨G, P, r, ds, r', st, e, q⟩ => ?_⟩
    simp only [evs] at e
    cases e
    exact q [] G H P st (Stp.refl ..) .nil fun _ => Same.refl _
  | e :: ks, v :: vs, k, .cons ee es, h, ⟨h1, h2, h3⟩, hl => by
    simp only [keysE] at h
    split at h
    · rename_i k1 kr hk1 hkr
      cases h
      obtain ⟨e', rfl, pk⟩ := key_pe (X := X) hk1
      obtain ⟨a1, a2, trs, pr, rd⟩ := pairs_ok (pos := pos) hkr h3 (by simpa using hl)
      refine ⟨by simp [a1], by simp [a2], _, pps_cons pk h2 pr, fun σ H Q ⟨G, P, r, ds, r', st, e, q⟩ => ?_⟩
      simp only [evs] at e
      split at e
      · rename_i x r1 h1
        split at e
        · rename_i ds2 r2 h2
          cases e
          exact tE_settle st h1 fun v1 G1 P1 H1 st1 s1 rp p1 => rd σ H1 _ ⟨G1, P1, _, ds2, _, st1, h2, fun vs G2 H2 P2 st2 s2 rs p2 => q (v1 :: vs) G2 H2 P2 st2 (s1.trans s2) (.cons (Rep.mono s2.gg rp) rs) fun h => (p1 (andT h).1).trans (p2 (andT h).2)⟩
        · cases e
      · cases e
    · cases h
  | [], _ :: _, _, _, _, _, hl => by simp at hl
  | _ :: _, [], _, _, _, _, hl => by simp at hl
  | [], [], _, .cons _ _, _, h, _ => h.elim
  | _ :: _, _ :: _, _, .nil, _, h, _ => h.elim
theorem putK_new {kvs : List (Key × V)} {k : Key} {v : V} (h : k ∉ kvs.map (·.1)) : putK kvs k v = kvs ++ [(k, v)] := by
  unfold putK
  rw [if_neg]
  intro z
  rw [List.any_eq_true] at z
  obtain ⟨x, h1, h2⟩ := z
  exact h (List.mem_map.mpr ⟨x, h1, of_decide_eq_true h2⟩)
theorem mergeK_new : ∀ {more kvs : List (Key × V)}, ((kvs ++ more).map (·.1)).Nodup → mergeK kvs more = kvs ++ more
  | [], kvs, _ => by simp [mergeK]
  | (k, v) :: more, kvs, h => by
    have h1 : k ∉ kvs.map (·.1) := by
      rw [List.map_append, List.map_cons] at h
      have := (List.nodup_append.mp h).2.2
      intro z
      exact this k z k (List.mem_cons_self ..) rfl
    have e : kvs ++ (k, v) :: more = (kvs ++ [(k, v)]) ++ more := by simp
    have ih := mergeK_new (more := more) (kvs := kvs ++ [(k, v)]) (by rw [← e]; exact h)
    show mergeK (putK kvs k v) more = _
    rw [putK_new h1, ih, e]
theorem zip_fst {ks : List Key} {vs : List V} (h : ks.length = vs.length) : (ks.zip vs).map (·.1) = ks := by
  rw [List.map_fst_zip]
  omega
theorem zip_kV : ∀ {ks : List Key} {vs : List V}, (ks.map kV).zip vs = (ks.zip vs).map fun kv => (kV kv.1, kv.2)
  | [], _ => rfl
  | _ :: _, [] => rfl
  | k :: ks, v :: vs => by simp [zip_kV (ks := ks) (vs := vs)]
theorem ge_dct {X : Cx} {C : Ct} {pos : Pos} {ks : List (Option Expr)} {vs : List Expr} {k : List Key} {es : Es} (hk : keysE ks = some k) (h : PEs X C vs es) (hl : ks.length = vs.length) (h0 : ks ≠ []) (h15 : ks.length ≤ 15) : PE X (.Dict ks vs pos) (tE C (.dct k es)) := by
  obtain ⟨a1, a2, trs, pr, rd⟩ := pairs_ok (pos := pos) hk h hl
  refine PE.imp (pe_disp pr a1 hl h0 h15) fun σ H Q ⟨G, P, r, y, r', st, e, q⟩ => ?_
  simp only [ev] at e
  split at e
  · rename_i ds r1 h1
    split at e
    · rename_i hc
      cases e
      obtain ⟨c1, c2, c3, c4⟩ := hc
      intro p hp
      have gr := Grow.nu (o := .dK []) st.gh hp
      refine rd σ _ _ ⟨G, P, r, ds, _, st.grow gr, h1, fun vals G1 H1 P1 st1 s1 rs p1 => ?_⟩
      obtain ⟨z1, z2, z3⟩ := s1.stays (a := p) upd_same (fun j hj => (st.dom hj).2 hp) (Same.no st.gh hp)
      have hlen : k.length = vals.length := by rw [c2, Reps.length rs]
      refine ⟨z1, k.zip vals, zip_kV, by rw [List.length_zip]; omega, ?_⟩
      have hm : mergeK [] (k.zip vals) = k.zip vals := mergeK_new (by rw [List.nil_append, zip_fst hlen]; exact c1)
      rw [hm]
      refine q (.ref p) G1 _ P1 (fun a => a = p) (st1.updD z2 z3) (((Stp.grow gr).trans s1).updN hp) ⟨.ow upd_same z2 (.dK c2 rs) fun _ => Iff.rfl, fun j a ha hj => z3 j (by rw [← ha]; exact hj)⟩ (fun a ha => .inr (by rw [ha]; exact hp)) fun hpu a u ea => ?_
      have hne : a ≠ p := ne_of_none ea hp
      rw [upd_ne hne]
      exact p1 hpu a u (by rw [upd_ne hne]; exact ea)
    · cases e
  · cases e
/-- d.update(e) -/
def rUpd : V → List V → Hp → VK → Prop := fun x vs H Q => ∃ p q kvs more, x = .ref p ∧ vs = [.ref q] ∧ p ≠ q ∧ H p = some (.dK kvs) ∧ H q = some (.dK more) ∧ kvs.length + more.length ≤ sizeLine ∧ Q .non (upd H p (.dK (mergeK kvs more)))
theorem mt_upd {X : Cx} : MtM X "dict.update" rUpd := by
  intro pins s σ H x vs v us Q I rx rv h
  obtain ⟨p, q, kvs, more, rfl, rfl, hne, h1, h2, hz, k⟩ := h
  cases rx
  obtain ⟨u, rfl, ru⟩ := rv.one
  cases ru
  obtain ⟨z1, hd1, vs1, r1, dd1⟩ := dk_of I.hok h1
  obtain ⟨z2, hd2, vs2, r2, dd2⟩ := dk_of I.hok h2
  have l1 : kvs.length = vs1.length := r1.length
  have l2 : more.length = vs2.length := r2.length
  refine call_meetsIn PySem.F.slot_dict_update dd1.typeIs PySem.F.entry_dict_update (PySem.F.args_dict_update_2 _ _) (meets_dict_update (mixKind X.prog X.w) p q hne hd2) ⟨vs1, vs2, dd1, dd2, by omega, fun h' d1 d2 hs => ?_⟩
  have he : ∃ o, h'.get? p = some o := let ⟨o, _, _, hq, _⟩ := d1; ⟨o, hq⟩
  have rm : KV (mergeK kvs more) (merged vs1 vs2) := KV.merge r2 r1
  have zm : (mergeK kvs more).length ≤ sizeLine := by
    have e1 : (mergeK kvs more).length = (merged vs1 vs2).length := rm.length
    have e2 := merged_length_le vs1 vs2
    omega
  exact ⟨.non, _, d_write (t' := s.toks) I (by rw [h1]; exact True.intro) hs he (dk_new zm hd1 rm d1), rfl, k⟩
theorem gs_updd {X : Cx} {C : Ct} {e : Expr} {ee : E} {pos : Pos} {i : Nat} {x : Str} {np apos cpos : Pos} (hN : X.N[i]? = some x) (hv : Vis X.env.scope x) (hd : (x == ("__debug__" : Str)) = false) (hcd : (x == ("__classdict__" : Str)) = false) (hl : (apos.endLine == cpos.line) = true) (hn : notStar e = true) (he : PE X e (tE C ee)) :
    PS X (.Expr (.Call (.Attribute (.Name x np) "update" apos) [e] [] cpos) pos) (tS C (.updd i ee)) := by
  refine PS.imp (ps_expr (pe_bm PySem.F.plainAttrs_dict PySem.F.slot_dict_update PySem.F.type_dict_update mt_upd (pe_var hN hv hd hcd) (pa_cons he pa_nil (star_cons hn)) rfl (few1 hn) hl (star_cons hn) rfl)) fun D σ H ⟨G, P, r, st, k⟩ => ?_
  simp only [evS] at k
  split at k
  · rename_i ks0 ds0 h0
    split at k
    · rename_i x r1 h1
      split at k
      · rename_i ks ds ls es h2 h3
        split at k
        · rename_i hc
          obtain ⟨c1, c2, c3⟩ := hc
          obtain ⟨v0, e0, o0⟩ := st.sl i _ h0
          obtain ⟨p, ob, rfl, hp, f0, _⟩ := o0.at
          refine ⟨_, e0, ?_, tE_settle st h1 fun w G1 P1 H1 st1 s1 rp1 _ => ?_⟩
          · cases f0 with
            | dK l rs => exact .inr (.inr (.inl ⟨rfl, .inl ⟨_, hp⟩⟩))
          · obtain ⟨v1, e1, o1⟩ := st1.sl i _ h2
            rw [e0] at e1
            cases e1
            obtain ⟨q, ob1, eq1, hq, f1, hA⟩ := o1.at
            cases eq1
            rw [h3] at rp1
            cases f1 with
            | @dK _ _ vs l rs =>
              cases rp1 with
              | @dK q2 _ ws _ hq2 l2 rs2 =>
                have hne : p ≠ q2 := by
                  rintro rfl
                  have := (st1.dom hA).1
                  rw [hq2] at this; cases this
                have e1 : (ks.zip vs).length = ks.length := by
                  have := Reps.length rs
                  rw [List.length_zip]; omega
                have e2 : (ls.zip ws).length = ls.length := by
                  have := Reps.length rs2
                  rw [List.length_zip]; omega
                have lv : ks.length = vs.length := by rw [c3, Reps.length rs]
                have lw : ls.length = ws.length := by rw [l2, Reps.length rs2]
                have hm : mergeK (ks.zip vs) (ls.zip ws) = (ks ++ ls).zip (vs ++ ws) := by
                  rw [mergeK_new, List.zip_append lv]
                  rw [List.map_append, zip_fst lv, zip_fst lw]; exact c2
                obtain ⟨st2, s2⟩ := st1.updO (d' := .dK (ks ++ ls) (ds ++ es)) (o' := .dK ((ks ++ ls).zip (vs ++ ws))) h2 hA (.dK (by rw [List.length_append, List.length_append]; omega) (Reps.app rs rs2))
                exact ⟨p, q2, _, _, rfl, rfl, hne, hq, st1.gh _ _ hq2, by rw [e1, e2]; exact c1, by rw [hm]; exact k σ G1 _ P1 st2 (s1.trans s2) Fr.refl⟩
        · exact k.elim
      · exact k.elim
    · exact k.elim
  · exact k.elim
theorem isTrue_if {P : Program} {w : World} {A : Around} {env : PySem.Env} {E : Value → Shared → Prop} {s : Shared} {t a b : Expr} {pos : Pos} {whole : Sem Value} {Q : Bool → Shared → Prop}
    (h : wpAny (model P w) A (isTrue t env (eval t env)) (fun c s' => if c = true then wpAny (model P w) A (isTrue a env (eval a env)) Q E s' else wpAny (model P w) A (isTrue b env (eval b env)) Q E s') E s) : wpAny (model P w) A (isTrue (.IfExp t a b pos) env whole) Q E s := by
  show wpAny (model P w) A (do if ← isTrue t env (eval t env) then isTrue a env (eval a env) else isTrue b env (eval b env)) Q E s
  refine wpAny_bind (wpAny_mono h (fun c s' q => ?_) fun _ _ x => x)
  cases c with
  | true => exact q
  | false => exact q
theorem gt_ite {X : Cx} {C : Ct} {a b c : Expr} {ea eb ec : E} {pos : Pos} (hc : PT X c (tT C ec)) (ha : PT X a (tT C ea)) (hb : PT X b (tT C eb)) : PT X (.IfExp c a b pos) (tT C (.ite ec ea eb)) := by
  refine ⟨fun pins s σ H Q I ⟨G, P, r, y, r', st, e, k⟩ => isTrue_if ?_⟩
  simp only [ev] at e
  split at e
  · rename_i r1 h1
    refine thn (hc.run pins s σ H (fun b H1 => b = true ∧ tT C ea σ H1 Q) I ⟨G, P, r, true, r1, st, h1, fun G1 H1 P1 st1 s1 p1 => ⟨rfl, G1, P1, r1, y, r', st1, e, fun G2 H2 P2 st2 s2 p2 => k G2 H2 P2 st2 (s1.trans s2) fun h => (p1 (andT h).1).trans (p2 (andT (andT h).2).1)⟩⟩) fun d s1 ⟨H1, I1, e1, q1⟩ => ?_
    rw [if_pos e1]
    exact ha.run pins s1 σ H1 Q I1 q1
  · rename_i r1 h1
    refine thn (hc.run pins s σ H (fun b H1 => b = false ∧ tT C eb σ H1 Q) I ⟨G, P, r, false, r1, st, h1, fun G1 H1 P1 st1 s1 p1 => ⟨rfl, G1, P1, r1, y, r', st1, e, fun G2 H2 P2 st2 s2 p2 => k G2 H2 P2 st2 (s1.trans s2) fun h => (p1 (andT h).1).trans (p2 (andT (andT h).2).2)⟩⟩) fun d s1 ⟨H1, I1, e1, q1⟩ => ?_
    rw [e1, if_neg (by decide)]
    exact hb.run pins s1 σ H1 Q I1 q1
  · cases e

/-! ### the induction -/
structure OkN (C : Ct) (k n : Nat) : Prop where
  e : ∀ {c : Cc} {ex : Expr} {r : E}, ce n c ex = some r → ∀ {X : Cx}, Good X C c k → PE X ex (tE C r) ∧ PT X ex (tT C r)
  and_ : ∀ {c : Cc} {a : Expr} {l : List Expr} {r : E}, cand n c a l = some r → ∀ {X : Cx}, Good X C c k → ∀ pos, PE X (.BoolOp .And (a :: l) pos) (tE C r) ∧ PW X (.BoolOp .And (a :: l) pos) (tT C r)
  or_ : ∀ {c : Cc} {a : Expr} {l : List Expr} {r : E}, cor n c a l = some r → ∀ {X : Cx}, Good X C c k → ∀ pos, PE X (.BoolOp .Or (a :: l) pos) (tE C r) ∧ PW X (.BoolOp .Or (a :: l) pos) (tT C r)
  es : ∀ {c : Cc} {l : List Expr} {r : Es}, ces n c l = some r → ∀ {X : Cx}, Good X C c k → PEs X C l r
  o : ∀ {c : Cc} {l : Option Expr} {r : Oe}, co n c l = some r → ∀ {X : Cx}, Good X C c k → PO X l (tO C r)
  ar : ∀ {c : Cc} {io : List Bool} {l : List Expr} {r : Ar}, car n c io l = some r → noStars l = true → (l = [] → r = .nil ∧ io = []) ∧ ∀ {X : Cx}, Good X C c k → PA X l (tAr C io r)
  rc : ∀ {c : Cc} {b : Bool} {ex : Expr} {f : Ar → Ar}, crc n c b ex = some f → ∀ {X : Cx}, Good X C c k → (b = false ∧ ∃ ee, f = .ci ee ∧ PE X ex (tE C ee)) ∨ (b = true ∧ ∃ ee, f = .ct ee ∧ PE X ex (tE C ee)) ∨ (b = true ∧ ∃ i, f = .cx i ∧ PE X ex (tVar i))
  it : ∀ {c : Cc} {ex : Expr} {r : FJ.It}, cit n c ex = some r → ∀ tg, (isPair r = true → isTup tg = true) → ∀ {X : Cx}, Good X C c k → PI X tg ex (tI C r)
  tg : ∀ {c : Cc} {ex : Expr} {r : Tg}, ctg n c ex = some r → ∀ {X : Cx}, Good X C c k → PG X ex (tG C r)
  tgs : ∀ {c : Cc} {l : List Expr} {r : List Tg}, ctgs n c l = some r → noStars l = true ∧ l.length = r.length ∧ ∀ {X : Cx}, Good X C c k → PGs X l (tGs C r)
section
variable {C : Ct} {k n : Nat} {c : Cc} {X : Cx}
theorem ne_b {x y : Str} (h : ¬ x = y) : (x == y) = false := by simpa using h
theorem name_ok {x : Str} {np : Pos} {r : E} (h : ce (n + 1) c (.Name x np) = some r) (G : Good X C c k) : PE X (.Name x np) (tE C r) := by
  simp only [ce] at h
  split at h
  · cases h
  · rename_i hd
    simp only [dbg, Bool.or_eq_true, decide_eq_true_eq, not_or] at hd
    obtain ⟨d1, d2⟩ := hd
    have d1' : (x == ("__debug__" : Str)) = false := by simpa using d1
    split at h
    · rename_i hv
      cases hs : slotOf x c.N with
      | none => rw [hs] at h; cases h
      | some i =>
        rw [hs] at h
        cases h
        exact ge_var (by rw [G.hN]; exact slotOf_ok hs) (by rw [G.sc]; exact visB_ok hv) d1' (ne_b d2)
    · split at h
      · rename_i d hg
        cases h
        obtain ⟨g1, g2, g3, u, v, g4, g5, g6⟩ := gOf_ok G hg
        exact ge_cst (pe_glob g1 g4 g5 g2) fun _ _ G _ _ _ => g6 G
      · cases h
theorem const_ok {cc : Const} {kk : Nat} {np : Pos} {r : E} (h : ce (n + 1) c (.Constant cc kk np) = some r) : PE X (.Constant cc kk np) (tE C r) := by
  cases cc <;> simp only [ce] at h <;> cases h
  · exact ge_cst pe_non fun _ _ _ _ _ _ => .non
  · exact ge_cst pe_bl fun _ _ _ _ _ _ => .bl
  · exact ge_cst pe_int fun _ _ _ _ _ _ => .int
  · exact ge_cst pe_str fun _ _ _ _ _ _ => .str
theorem bi_ok {x : Str} {b : BI} (h : biOf x = some b) : (b = .len ∨ b = .sum ∨ b = .all ∨ b = .any ∨ b = .max ∨ b = .min ∨ b = .divmod) ∧ bootBuiltins x = some (.builtin (idB b)) := by
  unfold biOf at h
  split at h
  · rename_i e; cases h; subst e; exact ⟨.inl rfl, PySem.boot_len⟩
  · split at h
    · rename_i e; cases h; subst e; exact ⟨.inr (.inr (.inl rfl)), PyProof.Rows.boot_all⟩
    · split at h
      · rename_i e; cases h; subst e; exact ⟨.inr (.inr (.inr (.inl rfl))), PyProof.Rows.boot_any⟩
      · split at h
        · rename_i e; cases h; subst e; exact ⟨.inr (.inl rfl), PyProof.Rows.boot_sum⟩
        · split at h
          · rename_i e; cases h; subst e; exact ⟨.inr (.inr (.inr (.inr (.inr (.inr rfl))))), PyProof.Rows.boot_divmod⟩
          · split at h
            · rename_i e; cases h; subst e; exact ⟨.inr (.inr (.inr (.inr (.inl rfl)))), PyProof.Rows.boot_max⟩
            · split at h
              · rename_i e; cases h; subst e; exact ⟨.inr (.inr (.inr (.inr (.inr (.inl rfl))))), PyProof.Rows.boot_min⟩
              · cases h
theorem bt_ok {x : Str} {b : BI} (h : btOf x = some b) : (b = .list ∨ b = .tuple ∨ b = .int) ∧ bootBuiltins x = some (.type (idT b)) := by
  unfold btOf at h
  split at h
  · rename_i e; cases h; subst e; exact ⟨.inl rfl, PyProof.Rows.boot_list⟩
  · split at h
    · rename_i e; cases h; subst e; exact ⟨.inr (.inl rfl), PyProof.Rows.boot_tuple⟩
    · split at h
      · rename_i e; cases h; subst e; exact ⟨.inr (.inr rfl), PyProof.Rows.boot_int⟩
      · cases h
theorem ty_ok {t : Expr} {ty : Ty} (G : Good X C c k) (h : tyOf c t = some ty) : ∃ np, t = .Name (bTy ty) np ∧ (∀ a b, ty ≠ .cls a b) ∧ Gl X (bTy ty) ∧ X.mg (bTy ty) = none := by
  unfold tyOf at h
  split at h
  · rename_i x np
    split at h
    · rename_i hg
      obtain ⟨g1, g2, g3, g4⟩ := gOf_ok G hg
      repeat' split at h
      all_goals first
        | (cases h; done)
        | (rename_i e; cases h; subst e; exact ⟨np, rfl, (fun _ _ z => by cases z), g1, g4⟩)
    · cases h
  · cases h
theorem both {ex : Expr} {r : E} (hp : PE X ex (tE C r)) (h : isTest ex = false) : PE X ex (tE C r) ∧ PT X ex (tT C r) := ⟨hp, gt_val hp h⟩
theorem call_ok (ih : OkN C k n) {x : Str} {np pos : Pos} {es : List Expr} {r : E} (h : ce (n + 1) c (.Call (.Name x np) es [] pos) = some r) (G : Good X C c k) : PE X (.Call (.Name x np) es [] pos) (tE C r) := by
  simp only [ce] at h
  split at h
  · cases h
  · rename_i hns
    have hns' : noStars es = true := by simpa using hns
    split at h
    · rename_i f hg
      obtain ⟨g1, g2, g3, a, fd, ps, g4, g5, g6, g7⟩ := gOf_ok G hg
      split at h
      · cases hc : car n c f.io es with
        | none => rw [hc] at h; cases h
        | some as =>
          rw [hc] at h
          cases h
          obtain ⟨q1, q2⟩ := ih.ar hc hns'
          exact ge_call g5 G.room g1 g2 g4 g6 g7 hns' q1 (q2 G)
      · cases h
    · rename_i q f hg
      obtain ⟨g1, g2, g3, g4⟩ := gOf_ok G hg
      split at h
      · rename_i io hio
        split at h
        · cases hc : car n c io es with
          | none => rw [hc] at h; cases h
          | some as =>
            rw [hc] at h
            cases h
            obtain ⟨q1, q2⟩ := ih.ar hc hns'
            exact ge_new (g4 f rfl) hio G.room g1 g2 hns' q1 (q2 G)
        · cases h
      · cases h
    · rename_i hg
      obtain ⟨g1, g2, g3, g4⟩ := gOf_ok G hg
      split at h
      · rename_i hx
        have hx' : x = "isinstance" := of_decide_eq_true hx
        subst hx'
        split at h
        · rename_i a t
          split at h
          · rename_i ea ty h1 h2
            cases h
            obtain ⟨np2, rfl, t1, t2, t3⟩ := ty_ok G h2
            simp only [noStars, List.all_cons, Bool.and_eq_true] at hns'
            exact ge_isi G.hK t1 g1 g4 t2 t3 hns'.1 (ih.e h1 G).1
          · cases h
        · cases h
      split at h
      · rename_i hs2
        simp only [Bool.and_eq_true, decide_eq_true_eq] at hs2
        obtain ⟨rfl, hlen⟩ := hs2
        cases es with
        | nil => cases hlen
        | cons e1 es =>
          cases es with
          | nil => cases hlen
          | cons e2 es =>
            cases es with
            | cons _ _ => simp at hlen
            | nil =>
              simp only [noStars, List.all_cons, Bool.and_eq_true] at hns'
              cases hc : ces n c [e1, e2] with
              | none => rw [hc] at h; cases h
              | some as =>
                rw [hc] at h
                cases h
                obtain ⟨_, u, _⟩ := (ih.es hc G).all
                exact ge_sum2 G.calm g1 g4 hns'.1 (by unfold noStars; simp only [List.all_cons, Bool.and_eq_true]; exact hns'.2) u
      · cases es with
        | nil =>
          have : False := by
            revert h
            cases biOf x <;> cases btOf x <;> intro h <;> cases h
          exact this.elim
        | cons e1 es1 =>
          simp only [noStars, List.all_cons, Bool.and_eq_true] at hns'
          cases hb : biOf x with
          | some b =>
            rw [hb] at h
            cases hc : ces n c (e1 :: es1) with
            | none => simp only [hc] at h; cases h
            | some as =>
              simp only [hc] at h
              cases h
              obtain ⟨b1, b2⟩ := bi_ok hb
              obtain ⟨_, u, _⟩ := (ih.es hc G).all
              exact ge_bi G.hK G.calm b1 b2 g3 g2 g1 g4 hns'.1 (by unfold noStars; exact hns'.2) u
          | none =>
            rw [hb] at h
            cases ht : btOf x with
            | none => simp only [ht] at h; cases h
            | some b =>
              cases hc : ces n c (e1 :: es1) with
              | none => simp only [ht, hc] at h; cases h
              | some as =>
                simp only [ht, hc] at h
                cases h
                obtain ⟨b1, b2⟩ := bt_ok ht
                obtain ⟨_, u, _⟩ := (ih.es hc G).all
                exact ge_bt G.calm b1 b2 g3 g2 g1 g4 hns'.1 (by unfold noStars; exact hns'.2) u
    · cases h
theorem set_no {e : Expr} {env : PySem.Env} (h : isSet e = false) : ∀ x, foldedSetIterable e env x = pure x := by
  intro x
  cases e <;> first | rfl | (simp [isSet] at h)
theorem comp_ok (ih : OkN C k n) {elt tg iter : Expr} {ifs : List Expr} {scope : Scope} {pos : Pos} {as : Int} {r : E} (h : ce (n + 1) c (.ListComp elt [⟨tg, iter, ifs, as⟩] scope pos) = some r) (G : Good X C c k) :
    as = 0 ∧ ∃ ee tgt it cd own, r = .comp ee tgt it cd ∧ own.map (·.2) = tgt.slots ∧ isSet iter = false ∧ PI X tg iter (tI C it) ∧ BlkOk X.N X.env.scope scope own ∧
    (∀ (s : Shared) (H : Hp) (Ca : Addr) (cl : List (Str × Addr)) (fp : List Addr), PG (X.blk s H scope (compEnvC scope cl Ca X.env) fp) tg (tG C tgt)) ∧
    (∀ (s : Shared) (H : Hp) (Ca : Addr) (cl : List (Str × Addr)) (fp : List Addr), PTs (X.blk s H scope (compEnvC scope cl Ca X.env) fp) ifs (tCd C cd)) ∧
    (∀ (s : Shared) (H : Hp) (Ca : Addr) (cl : List (Str × Addr)) (fp : List Addr), PE (X.blk s H scope (compEnvC scope cl Ca X.env) fp) elt (tE C ee)) := by
  simp only [ce] at h
  split at h
  · cases h
  · rename_i hset
    have hset2 : isSet iter = false ∧ as = 0 := by simpa using hset
    obtain ⟨hset, has⟩ := hset2
    refine ⟨has, ?_⟩
    split at h
    · rename_i it tgt h1 h2
      split at h
      · cases h
      · rename_i hpair
        split at h
        · rename_i hb
          rw [Bool.and_eq_true, decide_eq_true_eq] at hb
          obtain ⟨hb1, hb2⟩ := hb
          have hp : isPair it = true → isTup tg = true := fun z => by
            rw [z] at hpair
            simpa using hpair
          have blk : BlkOk X.N X.env.scope scope (namesOf tgt c.N) := by rw [G.hN, G.sc]; exact blkOk_by hb1
          have hi := ih.it h1 tg hp G
          have hg : ∀ (s : Shared) (H : Hp) (Ca : Addr) (cl : List (Str × Addr)) (fp : List Addr), PG (X.blk s H scope (compEnvC scope cl Ca X.env) fp) tg (tG C tgt) := fun s H Ca cl fp => ih.tg h2 (G.blk s H scope Ca cl fp)
          have hs : isSet iter = false := hset
          split at h
          · rename_i ee h3
            cases h
            exact ⟨_, _, _, _, _, rfl, hb2, hs, hi, blk, hg, fun _ _ _ _ _ => gc_no, fun s H Ca cl fp => (ih.e h3 (G.blk s H scope Ca cl fp)).1⟩
          · rename_i ee i h3
            cases hc : ce n (inner c scope) i with
            | none => rw [hc] at h; cases h
            | some ei =>
              rw [hc] at h
              cases h
              exact ⟨_, _, _, _, _, rfl, hb2, hs, hi, blk, hg, fun s H Ca cl fp => gc_so (ih.e hc (G.blk s H scope Ca cl fp)).2, fun s H Ca cl fp => (ih.e h3 (G.blk s H scope Ca cl fp)).1⟩
          · cases h
        · cases h
    · cases h
theorem e_ok (ih : OkN C k n) : ∀ {ex : Expr} {r : E}, ce (n + 1) c ex = some r → ∀ {X : Cx}, Good X C c k → PE X ex (tE C r) ∧ PT X ex (tT C r) := by
  intro ex r h X G
  cases ex with
  | Name x np => exact both (name_ok h G) rfl
  | Constant cc kk np => exact both (const_ok h) rfl
  | UnaryOp op a pos =>
    cases op with
    | USub =>
      simp only [ce] at h
      cases hc : ce n c a with
      | none => rw [hc] at h; cases h
      | some ea => rw [hc] at h; cases h; exact both (ge_neg (ih.e hc G).1) rfl
    | Not =>
      simp only [ce] at h
      cases hc : ce n c a with
      | none => rw [hc] at h; cases h
      | some ea => rw [hc] at h; cases h; exact ⟨ge_not (ih.e hc G).1, gt_not (ih.e hc G).2⟩
    | _ => simp [ce] at h
  | BinOp a o b pos =>
    simp only [ce] at h
    split at h
    · rename_i bo ea eb h1 h2 h3
      cases h
      have := binOp_of h1
      subst this
      exact both (ge_bin G.hK (ih.e h2 G).1 (ih.e h3 G).1) rfl
    · cases h
  | Compare a ops cs pos =>
    have hu := G.room.units
    cases ops with
    | nil => simp [ce] at h
    | cons o ops =>
      cases cs with
      | nil => simp [ce] at h
      | cons b cs =>
        cases ops with
        | nil =>
          cases cs with
          | cons _ _ => simp [ce] at h
          | nil =>
            simp only [ce] at h
            split at h
            · cases h
            · rename_i hm
              have hm' : behindInMarks o b = false := by simpa using hm
              split at h
              · rename_i ea eb h1 h2
                cases h
                exact ⟨ge_cmp ⟨hu, G.hK, G.hw⟩ (ih.e h1 G).1 (ih.e h2 G).1 hm', gt_cmp ⟨hu, G.hK, G.hw⟩ (ih.e h1 G).1 (ih.e h2 G).1 hm'⟩
              · cases h
        | cons u ops =>
          cases cs with
          | nil => cases ops <;> simp [ce] at h
          | cons d cs =>
            cases ops with
            | cons _ _ => simp [ce] at h
            | nil =>
              cases cs with
              | cons _ _ => simp [ce] at h
              | nil =>
                simp only [ce] at h
                split at h
                · cases h
                · rename_i hm
                  have hm' : isSet b = false ∧ isSet d = false := by simpa using hm
                  split at h
                  · rename_i ea eb ed h1 h2 h3
                    cases h
                    exact ⟨ge_chain ⟨hu, G.hK, G.hw⟩ (ih.e h1 G).1 (ih.e h2 G).1 (ih.e h3 G).1 hm'.1 hm'.2, gt_chain ⟨hu, G.hK, G.hw⟩ (ih.e h1 G).1 (ih.e h2 G).1 (ih.e h3 G).1 hm'.1 hm'.2⟩
                  · cases h
  | BoolOp op l pos =>
    cases l with
    | nil => cases op <;> simp [ce] at h
    | cons a l =>
      cases op with
      | And => exact ⟨(ih.and_ h G pos).1, (ih.and_ h G pos).2.pt⟩
      | Or => exact ⟨(ih.or_ h G pos).1, (ih.or_ h G pos).2.pt⟩
  | IfExp t a b pos =>
    simp only [ce] at h
    split at h
    · rename_i et ea eb h1 h2 h3
      cases h
      exact ⟨ge_ite (ih.e h1 G).2 (ih.e h2 G).1 (ih.e h3 G).1, gt_ite (ih.e h1 G).2 (ih.e h2 G).2 (ih.e h3 G).2⟩
    · cases h
  | Tuple es kk pos =>
    simp only [ce] at h
    split at h
    · rename_i hcp
      simp only [Bool.and_eq_true] at hcp
      cases hc : car n c (es.map fun _ => true) es with
      | none => rw [hc] at h; cases h
      | some l =>
        rw [hc] at h; cases h
        exact both (ge_tupo ((ih.ar hc hcp.2).2 G)) rfl
    · cases hc : ces n c es with
      | none => rw [hc] at h; cases h
      | some l => rw [hc] at h; cases h; exact both (ge_tup (ih.es hc G).all.1) rfl
  | List es pos =>
    simp only [ce] at h
    cases hc : ces n c es with
    | none => rw [hc] at h; cases h
    | some l => rw [hc] at h; cases h; exact both (ge_lst (ih.es hc G).all.1) rfl
  | Dict ks vs pos =>
    refine both ?_ rfl
    cases ks with
    | nil =>
      cases vs with
      | nil => simp only [ce] at h; cases h; exact ge_dnew false
      | cons _ _ => simp only [ce] at h; cases h
    | cons k0 ks =>
      simp only [ce] at h
      split at h
      · rename_i kk ws h1 h2
        split at h
        · rename_i hl
          cases h
          exact ge_dct h1 (ih.es h2 G) hl.1 (List.cons_ne_nil _ _) hl.2
        · cases h
      · cases h
  | Attribute a m pos =>
    refine both ?_ rfl
    simp only [ce] at h
    split at h
    · rename_i hb
      cases hc : ce n c a with
      | none => rw [hc] at h; cases h
      | some ea => rw [hc] at h; cases h; exact ge_fld (fun q i hq => G.fl m q i hq) hb (ih.e hc G).1
    · cases h
  | Subscript a b pos =>
    have gen : (if isSlice b = true then none else match ce n c a, ce n c b with | some ea, some eb => (match cstOf b with | some k => if cpB c (.Subscript a b pos) = true then some (E.sub ea k) else some (E.idx ea eb) | none => some (E.idx ea eb)) | _, _ => none) = some r → PE X (.Subscript a b pos) (tE C r) := by
      intro h
      split at h
      · cases h
      · rename_i hs
        split at h
        · rename_i ea eb h1 h2
          have ix := ge_idx (pos := pos) G.hK G.hw G.room.units (ih.e h1 G).1 (ih.e h2 G).1 (by simpa using hs)
          split at h
          · rename_i k hk
            split at h
            · cases h
              unfold cstOf at hk
              split at hk
              · cases hk
                exact ge_sub G.hK G.hw G.room.units (ih.e h1 G).1
              · cases hk
            · cases h; exact ix
          · cases h; exact ix
        · cases h
    refine both ?_ rfl
    cases b with
    | Slice lo hi st p2 =>
      cases st with
      | none =>
        simp only [ce] at h
        split at h
        · rename_i ea el eh h1 h2 h3
          cases h
          exact ge_sli G.hK (ih.e h1 G).1 (ih.o h2 G) (ih.o h3 G)
        · cases h
      | some _ => simp only [ce] at h; exact gen h
    | _ => simp only [ce] at h; exact gen h
  | Call f es kws pos =>
    refine both ?_ rfl
    cases kws with
    | cons _ _ => cases f <;> simp [ce] at h
    | nil =>
      cases f with
      | Name x np => exact call_ok ih h G
      | Attribute a m ap =>
        simp only [ce] at h
        split at h
        · rename_i hb
          simp only [Bool.and_eq_true] at hb
          obtain ⟨hb1, hb2⟩ := hb
          split at h
          · rename_i hm
            have hm := of_decide_eq_true hm
            subst hm
            cases es with
            | cons _ _ => simp at h
            | nil =>
              simp only at h
              cases hc : ce n c a with
              | none => rw [hc] at h; cases h
              | some ea => rw [hc] at h; cases h; exact ge_upper hb1 hb2 (ih.e hc G).1
          · split at h
            · rename_i hg
              simp only [Bool.and_eq_true, decide_eq_true_eq] at hg
              obtain ⟨rfl, hg2, hg3⟩ := hg
              split at h
              · rename_i ea ees h1 h2
                cases h
                cases es with
                | nil => cases hg2
                | cons e1 es =>
                  cases es with
                  | nil => cases hg2
                  | cons e2 es =>
                    cases es with
                    | cons _ _ => simp at hg2
                    | nil =>
                      obtain ⟨_, u, _⟩ := (ih.es h2 G).all
                      exact ge_get G.hK G.hw hb1 hb2 hg3 (ih.e h1 G).1 u
              · cases h
            split at h
            · rename_i b io tb hms
              split at h
              · rename_i hc
                simp only [Bool.and_eq_true, decide_eq_true_eq] at hc
                obtain ⟨hns, hlen⟩ := hc
                split at h
                · rename_i f as h1 h2
                  cases h
                  obtain ⟨q1, q2⟩ := ih.ar h2 hns
                  have hmm := fun q g hq => G.ms m (b :: io) tb hms q g hq
                  rcases ih.rc h1 G with ⟨rfl, ee, rfl, pe⟩ | ⟨rfl, ee, rfl, pe⟩ | ⟨rfl, i, rfl, pe⟩
                  · exact ge_meth hmm G.room hb1 hb2 hns hlen q1 ⟨rfl, rfl, pe⟩ (q2 G)
                  · exact ge_meth hmm G.room hb1 hb2 hns hlen q1 ⟨rfl, rfl, pe⟩ (q2 G)
                  · exact ge_meth hmm G.room hb1 hb2 hns hlen q1 ⟨rfl, rfl, pe⟩ (q2 G)
                · cases h
              · cases h
            · cases h
        · cases h
      | _ => simp [ce] at h
  | ListComp elt gs scope pos =>
    refine both ?_ rfl
    cases gs with
    | nil => simp [ce] at h
    | cons g gs =>
      obtain ⟨tg, iter, ifs, as⟩ := g
      cases gs with
      | cons _ _ => simp [ce] at h
      | nil =>
        obtain ⟨rfl, ee, tgt, it, cd, own, rfl, ho, hs, hi, ok, hg, ht, he⟩ := comp_ok ih h G
        exact ge_comp G.calm (by rw [G.hN]; exact G.nd) hi ok ho hg ht he (set_no hs)
  | _ => simp [ce] at h
end
end FJ

/-! The compiler: the induction closed, statements, a def. -/
namespace FJ
open PySem L2
section
variable {C : Ct} {k n : Nat} {c : Cc} {X : Cx}
theorem and_ok (ih : OkN C k n) {a : Expr} {l : List Expr} {r : E} (h : cand (n + 1) c a l = some r) (G : Good X C c k) (pos : Pos) : PE X (.BoolOp .And (a :: l) pos) (tE C r) ∧ PW X (.BoolOp .And (a :: l) pos) (tT C r) := by
  cases l with
  | nil =>
    simp only [cand] at h
    exact ⟨pe_one (ih.e h G).1, gw_and1 (ih.e h G).2⟩
  | cons b l =>
    simp only [cand] at h
    split at h
    · rename_i ea eb h1 h2
      cases h
      exact ⟨ge_and (ih.e h1 G).1 (ih.and_ h2 G pos).1, gw_and (ih.e h1 G).2 (ih.and_ h2 G pos).2⟩
    · cases h
theorem or_ok (ih : OkN C k n) {a : Expr} {l : List Expr} {r : E} (h : cor (n + 1) c a l = some r) (G : Good X C c k) (pos : Pos) : PE X (.BoolOp .Or (a :: l) pos) (tE C r) ∧ PW X (.BoolOp .Or (a :: l) pos) (tT C r) := by
  cases l with
  | nil =>
    simp only [cor] at h
    exact ⟨pe_one (ih.e h G).1, gw_or1 (ih.e h G).2⟩
  | cons b l =>
    simp only [cor] at h
    split at h
    · rename_i ea eb h1 h2
      cases h
      exact ⟨ge_or (ih.e h1 G).1 (ih.or_ h2 G pos).1, gw_or (ih.e h1 G).2 (ih.or_ h2 G pos).2⟩
    · cases h
theorem es_ok (ih : OkN C k n) {l : List Expr} {r : Es} (h : ces (n + 1) c l = some r) (G : Good X C c k) : PEs X C l r := by
  cases l with
  | nil => simp only [ces] at h; cases h; trivial
  | cons e l =>
    simp only [ces] at h
    split at h
    · rename_i hn
      split at h
      · rename_i ee es h1 h2
        cases h
        exact ⟨hn, (ih.e h1 G).1, ih.es h2 G⟩
      · cases h
    · cases h
theorem o_ok (ih : OkN C k n) {l : Option Expr} {r : Oe} (h : co (n + 1) c l = some r) (G : Good X C c k) : PO X l (tO C r) := by
  cases l with
  | none => simp only [co] at h; cases h; exact go_no
  | some e =>
    simp only [co] at h
    cases hc : ce n c e with
    | none => rw [hc] at h; cases h
    | some ee => rw [hc] at h; cases h; exact go_so (ih.e hc G).1
theorem ar_ok (ih : OkN C k n) {io : List Bool} {l : List Expr} {r : Ar} (h : car (n + 1) c io l = some r) (hn : noStars l = true) : (l = [] → r = .nil ∧ io = []) ∧ ∀ {X : Cx}, Good X C c k → PA X l (tAr C io r) := by
  cases io with
  | nil =>
    cases l with
    | nil => simp only [car] at h; cases h; exact ⟨fun _ => ⟨rfl, rfl⟩, fun _ => gr_nil⟩
    | cons e l => simp only [car] at h; cases h
  | cons b io =>
    cases l with
    | nil => cases b <;> (simp only [car] at h; cases h)
    | cons e l =>
      refine ⟨fun z => absurd z (List.cons_ne_nil _ _), ?_⟩
      intro X G
      have hn1 : notStar e = true := by simp only [noStars, List.all_cons, Bool.and_eq_true] at hn; exact hn.1
      have hn2 : noStars l = true := by simp only [noStars, List.all_cons, Bool.and_eq_true] at hn; unfold noStars; exact hn.2
      cases b with
      | false =>
        simp only [car] at h
        split at h
        · rename_i ee as h1 h2
          cases h
          exact gr_ci hn1 (ih.e h1 G).1 ((ih.ar h2 hn2).2 G)
        · cases h
      | true =>
        simp only [car] at h
        split at h
        · rename_i f as h1 h2
          cases h
          rcases ih.rc h1 G with ⟨z, _⟩ | ⟨_, ee, rfl, pe⟩ | ⟨_, i, rfl, pe⟩
          · cases z
          · exact gr_ct hn1 pe ((ih.ar h2 hn2).2 G)
          · exact gr_cx hn1 pe ((ih.ar h2 hn2).2 G)
        · cases h
theorem rc_ok (ih : OkN C k n) {b : Bool} {ex : Expr} {f : Ar → Ar} (h : crc (n + 1) c b ex = some f) (G : Good X C c k) : (b = false ∧ ∃ ee, f = .ci ee ∧ PE X ex (tE C ee)) ∨ (b = true ∧ ∃ ee, f = .ct ee ∧ PE X ex (tE C ee)) ∨ (b = true ∧ ∃ i, f = .cx i ∧ PE X ex (tVar i)) := by
  have gen : ∀ {g : E → Ar → Ar}, (ce n c ex).map g = some f → ∃ ee, f = g ee ∧ PE X ex (tE C ee) := fun {g} h => by
    cases hc : ce n c ex with
    | none => rw [hc] at h; cases h
    | some ee => rw [hc] at h; cases h; exact ⟨ee, rfl, (ih.e hc G).1⟩
  cases b with
  | false => simp only [crc] at h; exact .inl ⟨rfl, gen h⟩
  | true =>
    simp only [crc] at h
    split at h
    · exact .inr (.inl ⟨rfl, gen h⟩)
    · split at h
      · rename_i x np _
        split at h
        · exact .inr (.inl ⟨rfl, gen h⟩)
        · rename_i hd
          simp only [dbg, Bool.or_eq_true, decide_eq_true_eq, not_or, Bool.not_eq_true', Bool.not_eq_false] at hd
          obtain ⟨⟨d1, d2⟩, d3⟩ := hd
          have d1' : (x == ("__debug__" : Str)) = false := by simpa using d1
          cases hs : slotOf x c.N with
          | none => rw [hs] at h; cases h
          | some i =>
            rw [hs] at h
            cases h
            exact .inr (.inr ⟨rfl, i, rfl, pe_var (by rw [G.hN]; exact slotOf_ok hs) (by rw [G.sc]; exact visB_ok d3) d1' (ne_b d2)⟩)
      · exact .inr (.inl ⟨rfl, gen h⟩)
theorem it_gen (ih : OkN C k n) {ex : Expr} {r : FJ.It} (h : (ce n c ex).map FJ.It.lst = some r) (tg : Expr) (G : Good X C c k) : PI X tg ex (tI C r) := by
  cases hc : ce n c ex with
  | none => rw [hc] at h; cases h
  | some ee => rw [hc] at h; cases h; exact gi_lst G.hK (ih.e hc G).1
theorem it_genf (ih : OkN C k n) {ex : Expr} {r : FJ.It} (h : (if cpB c ex = true then (ce n c ex).map FJ.It.lstf else (ce n c ex).map FJ.It.lst) = some r) (tg : Expr) (G : Good X C c k) : PI X tg ex (tI C r) := by
  split at h
  · cases hc : ce n c ex with
    | none => rw [hc] at h; cases h
    | some ee => rw [hc] at h; cases h; exact gi_lstf G.hK (ih.e hc G).1
  · exact it_gen ih h tg G
theorem tup_of {tg : Expr} (h : isTup tg = true) : ∃ es kk p, tg = .Tuple es kk p := by
  cases tg <;> first | exact ⟨_, _, _, rfl⟩ | (simp [isTup] at h)
theorem it_ok (ih : OkN C k n) {ex : Expr} {r : FJ.It} (h : cit (n + 1) c ex = some r) (tg : Expr) (hp : isPair r = true → isTup tg = true) (G : Good X C c k) : PI X tg ex (tI C r) := by
  cases ex with
  | Call f es kws pos =>
    cases f with
    | Name x np =>
      cases kws with
      | cons _ _ => simp only [cit] at h; exact it_genf ih h tg G
      | nil =>
        simp only [cit] at h
        split at h
        · rename_i hb
          simp only [Bool.and_eq_true] at hb
          obtain ⟨hb, hns⟩ := hb
          unfold bltB at hb
          split at hb
          · rename_i hg
            obtain ⟨g1, g2, g3, g4⟩ := gOf_ok G hg
            split at h
            · rename_i hx
              have hx := of_decide_eq_true hx
              subst hx
              split at h
              · rename_i a
                cases hc : ces n c [a] with
                | none => rw [hc] at h; cases h
                | some es =>
                  rw [hc] at h
                  cases h
                  have q := ih.es hc G
                  cases es with
                  | nil => exact q.elim
                  | cons ee es =>
                    cases es with
                    | cons _ _ => exact q.2.2.elim
                    | nil => exact gi_rng1 g1 g4 q.1 q.2.1
              · rename_i a b
                cases hc : ces n c [a, b] with
                | none => rw [hc] at h; cases h
                | some es =>
                  rw [hc] at h
                  cases h
                  have q := ih.es hc G
                  cases es with
                  | nil => exact q.elim
                  | cons ee es =>
                    cases es with
                    | nil => exact q.2.2.elim
                    | cons eb es =>
                      cases es with
                      | cons _ _ => exact q.2.2.2.2.elim
                      | nil => exact gi_rng2 g1 g4 q.1 q.2.2.1 q.2.1 q.2.2.2.1
              · cases h
            · split at h
              · rename_i hx
                have hx := of_decide_eq_true hx
                subst hx
                split at h
                · rename_i a
                  cases hc : ce n c a with
                  | none => rw [hc] at h; cases h
                  | some ee =>
                    rw [hc] at h
                    cases h
                    obtain ⟨l, kk, p, rfl⟩ := tup_of (hp rfl)
                    simp only [noStars, List.all_cons, Bool.and_eq_true] at hns
                    exact gi_enu G.hK g1 g4 hns.1 (ih.e hc G).1
                · cases h
              · split at h
                · rename_i hx
                  have hx := of_decide_eq_true hx
                  subst hx
                  split at h
                  · rename_i a b
                    split at h
                    · rename_i ea eb h1 h2
                      cases h
                      obtain ⟨l, kk, p, rfl⟩ := tup_of (hp rfl)
                      simp only [noStars, List.all_cons, Bool.and_eq_true] at hns
                      exact gi_zip G.hK g1 g4 hns.1 hns.2.1 (ih.e h1 G).1 (ih.e h2 G).1
                    · cases h
                  · cases h
                · exact it_gen ih h tg G
          · cases hb
        · exact it_gen ih h tg G
    | Attribute a m ap =>
      cases kws with
      | cons _ _ => simp only [cit] at h; exact it_genf ih h tg G
      | nil =>
        simp only [cit] at h
        split at h
        · rename_i hb
          simp only [Bool.and_eq_true, decide_eq_true_eq, List.isEmpty_iff] at hb
          obtain ⟨rfl, rfl, hb1, hb2⟩ := hb
          cases hc : ce n c a with
          | none => rw [hc] at h; cases h
          | some ee =>
            rw [hc] at h
            cases h
            obtain ⟨l, kk, p, rfl⟩ := tup_of (hp rfl)
            exact gi_itm G.hK G.hw hb1 hb2 (ih.e hc G).1
        · exact it_gen ih h tg G
    | _ => simp only [cit] at h; exact it_genf ih h tg G
  | _ => simp only [cit] at h; exact it_genf ih h tg G
theorem tg_ok (ih : OkN C k n) {ex : Expr} {r : Tg} (h : ctg (n + 1) c ex = some r) (G : Good X C c k) : PG X ex (tG C r) := by
  cases ex with
  | Name x np =>
    simp only [ctg] at h
    split at h
    · rename_i hl
      cases hs : slotOf x c.N with
      | none => rw [hs] at h; cases h
      | some i =>
        rw [hs] at h
        cases h
        obtain ⟨l1, l2⟩ := loc_ok G hl
        exact gg_name (by rw [G.hN]; exact G.nd) (by rw [G.hN]; exact slotOf_ok hs) l1 l2
    · cases h
  | Tuple es kk pos =>
    simp only [ctg] at h
    cases hs : ctgs n c es with
    | none => rw [hs] at h; cases h
    | some l =>
      rw [hs] at h
      cases h
      obtain ⟨q1, q2, q3⟩ := ih.tgs hs
      exact gg_tup G.hK G.calm q1 q2 (q3 G)
  | _ => simp only [ctg] at h; cases h
theorem tgs_ok (ih : OkN C k n) {l : List Expr} {r : List Tg} (h : ctgs (n + 1) c l = some r) : noStars l = true ∧ l.length = r.length ∧ ∀ {X : Cx}, Good X C c k → PGs X l (tGs C r) := by
  cases l with
  | nil => simp only [ctgs] at h; cases h; exact ⟨rfl, rfl, fun _ => ggs_nil⟩
  | cons e l =>
    simp only [ctgs] at h
    split at h
    · rename_i hn
      split at h
      · rename_i ee es h1 h2
        cases h
        obtain ⟨q1, q2, q3⟩ := ih.tgs h2
        refine ⟨?_, by simp [q2], fun G => ggs_cons hn (ih.tg h1 G) (q3 G)⟩
        simp only [noStars, List.all_cons, hn, Bool.true_and]; exact q1
      · cases h
    · cases h
theorem okN (C : Ct) (k : Nat) : ∀ n, OkN C k n
  | 0 => ⟨fun h => by simp [ce] at h, fun h => by simp [cand] at h, fun h => by simp [cor] at h, fun h => by simp [ces] at h, fun h => by simp [co] at h, fun h => by simp [car] at h, fun h => by simp [crc] at h, fun h => by simp [cit] at h, fun h => by simp [ctg] at h, fun h => by simp [ctgs] at h⟩
  | n + 1 => by
    have ih := okN C k n
    constructor
    · intro c ex r h X G; exact e_ok ih h G
    · intro c a l r h X G pos; exact and_ok ih h G pos
    · intro c a l r h X G pos; exact or_ok ih h G pos
    · intro c l r h X G; exact es_ok ih h G
    · intro c l r h X G; exact o_ok ih h G
    · intro c io l r h hn; exact ar_ok ih h hn
    · intro c b ex f h X G; exact rc_ok ih h G
    · intro c ex r h tg hp X G; exact it_ok ih h tg hp G
    · intro c ex r h X G; exact tg_ok ih h G
    · intro c l r h; exact tgs_ok ih h
end
end FJ

/-! The compiler: statements, a def. -/
namespace FJ
open PySem L2
structure GoodS (X : Cx) (C : Ct) (c : Cc) (k : Nat) : Prop extends Good X C c k where
  kd : c.sc.kind = .function
  po : PassesOwn (model X.prog X.w) X.A X.env X.xe
section
variable {C : Ct} {k n : Nat} {c : Cc} {X : Cx} {pos : Pos} {e tg : Expr} {s : S}
theorem vis_parts {x : Str} (h : (dbg x || decide (x = "__classdict__")) = false) : (x == ("__debug__" : Str)) = false ∧ (x == ("__classdict__" : Str)) = false := by
  simp only [dbg, Bool.or_eq_false_iff, decide_eq_false_iff_not] at h
  exact ⟨h.1, ne_b h.2⟩
theorem xp_ok (G : GoodS X C c k) (h : cxp c e = some s) : PS X (.Expr e pos) (tS C s) := by
  have ih := okN C k 1000
  unfold cxp at h
  split at h
  · rename_i s' h2
    cases h
    unfold capp at h2
    split at h2
    · rename_i x np m ap e1 cp
      split at h2
      · rename_i hb
        simp only [Bool.and_eq_true, decide_eq_true_eq, Bool.not_eq_true', dbg] at hb
        obtain ⟨hm, hv, hd, hcd, hn, hl⟩ := hb
        split at h2
        · rename_i i ee h3 h4
          split at h2
          · rename_i hm2
            subst hm2
            cases h2
            exact gs_app (by rw [G.hN]; exact slotOf_ok h3) (by rw [G.sc]; exact visB_ok hv) hd (ne_b hcd) hl hn (ih.e h4 G.toGood).1
          · rename_i hm2
            have hm3 : m = "update" := by simpa [hm2] using hm
            subst hm3
            cases h2
            exact gs_updd (by rw [G.hN]; exact slotOf_ok h3) (by rw [G.sc]; exact visB_ok hv) hd (ne_b hcd) hl hn (ih.e h4 G.toGood).1
        · cases h2
      · cases h2
    · rename_i x np k u kp spos m ap e1 cp
      split at h2
      · rename_i hb
        simp only [Bool.and_eq_true, decide_eq_true_eq, Bool.not_eq_true', dbg] at hb
        obtain ⟨rfl, hv, hd, hcd, hn, hl⟩ := hb
        split at h2
        · rename_i i ee h3 h4
          cases h2
          exact gs_appP (by rw [G.hN]; exact slotOf_ok h3) (by rw [G.sc]; exact visB_ok hv) hd (ne_b hcd) hl hn (ih.e h4 G.toGood).1
        · cases h2
      · cases h2
    · cases h2
  · split at h
    · cases h
    · rename_i hc
      cases h4 : ce 1000 c e with
      | none => rw [h4] at h; cases h
      | some ee =>
        rw [h4] at h
        cases h
        refine gs_expr ?_ (ih.e h4 G.toGood).1
        cases e <;> first | rfl | (simp [isComp] at hc)
theorem new_ok (G : GoodS X C c k) {x : Str} {r : E} (h : cnew c x e = some r) : PE X e (tE C r) := by
  unfold cnew at h
  split at h
  · cases h; exact ge_dnew _
  · exact ((okN C k 1000).e h G.toGood).1
/-- name = a comprehension -/
theorem lc_ok (G : GoodS X C c k) {elt : Expr} {gs : List Comprehension} {scope : Scope} {p py : Pos} {x : Str} {i : Nat} {r : E} (hl : locB c x = true) (hi : slotOf x c.N = some i) (h : ce 1000 c (.ListComp elt gs scope p) = some r) :
    PS X (.Assign [.Name x py] (.ListComp elt gs scope p) pos) (tS C (.asg (.name i) r)) := by
  obtain ⟨l1, l2⟩ := loc_ok G.toGood hl
  have hN : X.N.Nodup := by rw [G.hN]; exact G.nd
  have hi' : X.N[i]? = some x := by rw [G.hN]; exact slotOf_ok hi
  have sw : swapsWith (.ListComp elt gs scope p) (some (.Name x py)) pos.line X.env = pure (X.env.blockKind == .function && X.env.kindOf x == some .local && py.line == p.line && !(scope.names.any fun (n, k) => n == x && (k == .local || k == .cell))) := rfl
  cases hb : (X.env.blockKind == .function && X.env.kindOf x == some .local && py.line == p.line && !(scope.names.any fun (n, k) => n == x && (k == .local || k == .cell))) with
  | false => exact gs_set hN hi' l1 l2 ((okN C k 1000).e h G.toGood).1 (by rw [sw, hb])
  | true =>
    have hloc : X.env.scope.names.lookup x = some .local := by
      simp only [Bool.and_eq_true] at hb
      have := hb.1.1.2
      simpa [PySem.Env.kindOf] using this
    cases gs with
    | nil => simp [ce] at h
    | cons g gs =>
      obtain ⟨tg, iter, ifs, as⟩ := g
      cases gs with
      | cons _ _ => simp [ce] at h
      | nil =>
        obtain ⟨rfl, ee, tgt, it, cd, own, rfl, ho, hs, hit, ok, hg, ht, he⟩ := comp_ok (okN C k 999) h G.toGood
        refine PS.imp (ps_setLc G.calm hN hi' hloc (by rw [sw, hb]) hit ok hg ht he (set_no hs)) fun D σ H q => ?_
        have q' := set_read q
        rw [ho]
        exact lc_read q'
theorem set_ok (G : GoodS X C c k) {x : Str} {py : Pos} {i : Nat} {r : E} (hl : locB c x = true) (hi : slotOf x c.N = some i) (h : cnew c x e = some r) : PS X (.Assign [.Name x py] e pos) (tS C (.asg (.name i) r)) := by
  obtain ⟨l1, l2⟩ := loc_ok G.toGood hl
  have hN : X.N.Nodup := by rw [G.hN]; exact G.nd
  have hi' : X.N[i]? = some x := by rw [G.hN]; exact slotOf_ok hi
  have gen : swapsWith e (some (.Name x py)) pos.line X.env = pure false → PS X (.Assign [.Name x py] e pos) (tS C (.asg (.name i) r)) := fun hs => gs_set hN hi' l1 l2 (new_ok G h) hs
  cases e with
  | ListComp elt gs scope p => exact lc_ok G hl hi h
  | SetComp _ _ _ _ => simp [cnew, ce] at h
  | DictComp _ _ _ _ _ => simp [cnew, ce] at h
  | _ => exact gen rfl
theorem par_sw {env : PySem.Env} {x y : Str} {p q pt : Pos} {kt k2 : Nat} {a b : Expr} {t2 : Pos} (hk : env.scope.kind = .function) (h1 : env.scope.names.lookup x = some .local) (h2 : env.scope.names.lookup y = some .local) (h3 : (p.line == q.line) = true) (h4 : x ≠ y) (h5 : notStar a = true) (h6 : notStar b = true) (h7 : [a, b].all (foldedForSure 8) = false) (h8 : [a, b].all (constantsAlone 8) = false) :
    swappedStores [.Tuple [.Name x p, .Name y q] kt pt] (.Tuple [a, b] k2 t2) env = pure (some [x, y]) := by
  have hbk : (env.blockKind != .function) = false := by
    unfold PySem.Env.blockKind
    rw [hk]; rfl
  have k1 : env.kindOf x = some .local := h1
  have k2' : env.kindOf y = some .local := h2
  have hpq : q.line = p.line := by simpa using (by simpa using h3 : p.line = q.line).symm
  have hxy : (y == x) = false := by simpa using (fun z : y = x => h4 z.symm)
  have hxy2 : (x == y) = false := by simpa using h4
  unfold swappedStores
  simp only [List.length_cons, List.length_nil, hbk, h7, h8]
  rw [if_neg (by decide), if_neg ?ns]
  case ns =>
    intro hh
    rw [List.any_eq_true] at hh
    obtain ⟨z, hz, ht⟩ := hh
    have hz' : notStar z = true := by
      rcases List.mem_cons.mp hz with rfl | hz
      · exact h5
      · rcases List.mem_cons.mp hz with rfl | hz
        · exact h6
        · cases hz
    cases z <;> first | (cases ht; done) | (simp [notStar] at hz'; done)
  simp [List.filterMap_cons, Expr.pos, k1, k2', hpq, List.eraseDups_cons, hxy, hxy2]
theorem par_ok (G : GoodS X C c k) {ts : List Expr} {kk : Nat} {p : Pos} (h : cpar c ts e = some s) : PS X (.Assign [.Tuple ts kk p] e pos) (tS C s) := by
  have ih := okN C k 1000
  unfold cpar at h
  split at h
  · split at h
    · rename_i hb
      simp only [Bool.and_eq_true, decide_eq_true_eq, Bool.not_eq_true'] at hb
      obtain ⟨b1, b2, b3, b4, b5, b6, b7, b8⟩ := hb
      split at h
      · rename_i i j ea eb g1 g2 g3 g4
        split at h
        · cases h
        · rename_i hij
          cases h
          rw [← G.sc] at b1 b2
          exact gs_par G.calm (by rw [G.hN]; exact G.nd) (by rw [G.hN]; exact slotOf_ok g1) (by rw [G.hN]; exact slotOf_ok g2) hij b1 b2 b5 b6 (ih.e g3 G.toGood).1 (ih.e g4 G.toGood).1 (par_sw (by rw [G.sc]; exact G.kd) b1 b2 b3 b4 b5 b6 b7 b8)
      · cases h
    · cases h
  · cases h
theorem as_ok (G : GoodS X C c k) (h : cas c tg e = some s) : PS X (.Assign [tg] e pos) (tS C s) := by
  have ih := okN C k 1000
  cases tg with
  | Name x py =>
    simp only [cas] at h
    split at h
    · rename_i hl
      split at h
      · rename_i i ee h1 h2
        cases h
        exact set_ok G hl h1 h2
      · cases h
    · cases h
  | Tuple ts kk p =>
    simp only [cas] at h
    split at h
    · exact par_ok G h
    · rename_i hb0
      split at h
      · cases h
      rename_i hb1
      have hb : isTup e = false ∧ isComp e = false := ⟨by simpa using hb0, by simpa using hb1⟩
      split at h
      · rename_i tgt ee h1 h2
        cases h
        refine gs_asg (fun i z => ?_) (ih.e h2 G.toGood).1 (ih.tg h1 G.toGood) hb.1 hb.2
        subst z
        simp only [ctg] at h1
        cases hs : ctgs 999 c ts with
        | none => rw [hs] at h1; cases h1
        | some l => rw [hs] at h1; cases h1
      · cases h
  | Subscript a kx p =>
    cases a with
    | Name x np =>
      simp only [cas] at h
      split at h
      · rename_i hb
        simp only [Bool.and_eq_true, decide_eq_true_eq, Bool.not_eq_true', dbg] at hb
        obtain ⟨hv, hd, hcd, hsl, hcm⟩ := hb
        split at h
        · rename_i i ek ee h1 h2 h3
          cases h
          exact gs_seti (by rw [G.hN]; exact slotOf_ok h1) (by rw [G.sc]; exact visB_ok hv) hd (ne_b hcd) hsl hcm (ih.e h2 G.toGood).1 (ih.e h3 G.toGood).1
        · cases h
      · cases h
    | _ => simp [cas] at h
  | Attribute o m p =>
    simp only [cas] at h
    cases o with
    | Name x np =>
      simp only [cfl] at h
      split at h
      · rename_i hb
        simp only [Bool.and_eq_true, decide_eq_true_eq, Bool.not_eq_true', dbg] at hb
        obtain ⟨hv, hd, hcd, hcm⟩ := hb
        split at h
        · rename_i i ee h1 h2
          cases h
          exact gs_setf (fun q i hq => G.fl m q i hq) (by rw [G.hN]; exact slotOf_ok h1) (by rw [G.sc]; exact visB_ok hv) hd (ne_b hcd) hcm (ih.e h2 G.toGood).1
        · cases h
      · cases h
    | _ => simp [cfl] at h
  | _ => simp [cas] at h
theorem aug_ok {o : Operator} (G : GoodS X C c k) (h : caug c tg o e = some s) : PS X (.AugAssign tg o e pos) (tS C s) := by
  have ih := okN C k 1000
  cases tg with
  | Name x py =>
    simp only [caug] at h
    split at h
    · rename_i hl
      obtain ⟨l1, l2⟩ := loc_ok G.toGood hl
      split at h
      · rename_i i ee h1 h2
        cases o with
        | Add => cases h; exact gs_aug (bo := .add) rfl (by rw [G.hN]; exact G.nd) (by rw [G.hN]; exact slotOf_ok h1) l1 l2 (ih.e h2 G.toGood).1 (.inl rfl)
        | Sub => cases h; exact gs_aug (bo := .sub) rfl (by rw [G.hN]; exact G.nd) (by rw [G.hN]; exact slotOf_ok h1) l1 l2 (ih.e h2 G.toGood).1 (.inr rfl)
        | _ => cases h
      · cases h
    · cases h
  | _ => simp [caug] at h
theorem ret_gen (G : GoodS X C c k) (h : (ce 1000 c e).map S.ret = some s) : PS X (.Return (some e) pos) (tS C s) := by
  cases h4 : ce 1000 c e with
  | none => rw [h4] at h; cases h
  | some ee => rw [h4] at h; cases h; exact gs_ret ((okN C k 1000).e h4 G.toGood).1
theorem ret_ok (G : GoodS X C c k) (h : cret c e = some s) : PS X (.Return (some e) pos) (tS C s) := by
  unfold cret at h
  split at h
  · rename_i x np
    split at h
    · cases h
    · rename_i hd
      obtain ⟨d1, d2⟩ := vis_parts (by simpa using hd)
      split at h
      · rename_i hv
        cases hs : slotOf x c.N with
        | none => rw [hs] at h; cases h
        | some i =>
          rw [hs] at h
          have hN : X.N[i]? = some x := by rw [G.hN]; exact slotOf_ok hs
          have hV : Vis X.env.scope x := by rw [G.sc]; exact visB_ok hv
          have h' : (if c.np ≤ i then S.retv i else S.ret (.var i)) = s := Option.some.inj h
          split at h'
          · subst h'; exact gs_retv (pe_var hN hV d1 d2)
          · subst h'; exact gs_ret (ge_var hN hV d1 d2)
      · exact ret_gen G h
  · exact ret_gen G h
structure OkS (C : Ct) (k n : Nat) : Prop where
  s : ∀ {c : Cc} {st : Stmt} {r : S}, cs n c st = some r → ∀ {X : Cx}, GoodS X C c k → PS X st (tS C r)
  ss : ∀ {c : Cc} {l : List Stmt} {r : S}, css n c l = some r → ∀ {X : Cx}, GoodS X C c k → PSs X l (tS C r)
theorem cnd_ok {t : Expr} {r : E} (h : cnd c t = some r) (G : Good X C c k) : PT X t (tT C r) := by
  unfold cnd at h
  split at h
  · cases hc : ce 1000 c t with
    | none => rw [hc] at h; cases h
    | some e => rw [hc] at h; cases h; exact gt_lend ((okN C k 1000).e hc G).2
  · exact ((okN C k 1000).e h G).2
theorem s_ok (ih : OkS C k n) {st : Stmt} {r : S} (h : cs (n + 1) c st = some r) (G : GoodS X C c k) : PS X st (tS C r) := by
  have ie := okN C k 1000
  cases st with
  | Expr e pos => exact xp_ok G (by simpa only [cs] using h)
  | Assign ts e pos =>
    cases ts with
    | nil => simp [cs] at h
    | cons tg ts =>
      cases ts with
      | cons _ _ => simp [cs] at h
      | nil => exact as_ok G (by simpa only [cs] using h)
  | AugAssign tg o e pos => exact aug_ok G (by simpa only [cs] using h)
  | If t a b pos =>
    simp only [cs] at h
    split at h
    · rename_i et sa sb h1 h2 h3
      cases h
      exact gs_if (cnd_ok h1 G.toGood) (ih.ss h2 G) (ih.ss h3 G)
    · cases h
  | For tg iter b els pos =>
    cases els with
    | cons _ _ => simp [cs] at h
    | nil =>
      simp only [cs] at h
      split at h
      · cases h
      · rename_i hset
        split at h
        · rename_i tgt it sb h1 h2 h3
          split at h
          · cases h
          · rename_i hpair
            cases h
            refine gs_for G.po G.calm (ie.it h2 tg (fun z => ?_) G.toGood) (ie.tg h1 G.toGood) (ih.ss h3 G) (set_no (by simpa using hset))
            rw [z] at hpair
            simpa using hpair
        · cases h
  | While t b els pos =>
    cases els with
    | cons _ _ => simp [cs] at h
    | nil =>
      simp only [cs] at h
      split at h
      · rename_i et sb h1 h2
        cases h
        exact gs_while G.po (ie.e h1 G.toGood).2 (ih.ss h2 G)
      · cases h
  | Return e pos =>
    cases e with
    | none => simp only [cs] at h; cases h; exact gs_retN
    | some e => exact ret_ok G (by simpa only [cs] using h)
  | Raise a b pos => simp only [cs] at h; cases h; exact gs_raise
  | Try b hds els fin pos =>
    cases hds with
    | nil => simp [cs] at h
    | cons hd hds =>
      cases fin with
      | cons _ _ => simp [cs] at h
      | nil =>
        simp only [cs] at h
        split at h
        · rename_i sb sels h1 h2
          cases h
          exact gs_try (ih.ss h1 { G with po := PassesOwn.never }) (ih.ss h2 G)
        · cases h
  | Pass pos => simp only [cs] at h; cases h; exact gs_pass
  | Break pos => simp only [cs] at h; cases h; exact gs_brk
  | Continue pos => simp only [cs] at h; cases h; exact gs_cont
  | _ => simp [cs] at h
theorem ss_ok (ih : OkS C k n) {l : List Stmt} {r : S} (h : css (n + 1) c l = some r) (G : GoodS X C c k) : PSs X l (tS C r) := by
  cases l with
  | nil => simp only [css] at h; cases h; exact gss_nil
  | cons st l =>
    cases l with
    | nil => simp only [css] at h; exact gss_one (ih.s h G)
    | cons s2 l =>
      simp only [css] at h
      split at h
      · rename_i a b h1 h2
        cases h
        exact gss_cons (ih.s h1 G) (ih.ss h2 G)
      · cases h
theorem okS (C : Ct) (k : Nat) : ∀ n, OkS C k n
  | 0 => ⟨fun h => by simp [cs] at h, fun h => by simp [css] at h⟩
  | n + 1 => by
    have ih := okS C k n
    constructor
    · intro c st r h X G; exact s_ok ih h G
    · intro c l r h X G; exact ss_ok ih h G
end
end FJ

/-! A def keeps what the small language says of it. -/
namespace FJ
open PySem L2

def ioOk (io : List Bool) (as : List Nat) : Bool := as.all fun i => !(io[i]?.getD false)
section
variable {C : Ct} {G H G' H' : Hp} {P P' : Nat → Addr → Prop} {r r' : Env} {σ σ' : St}
theorem maskE_len : ∀ {io : List Bool} {l : Env}, l.length = io.length → (maskE io l).length = io.length
  | [], [], _ => rfl
  | [], _ :: _, h => by simp at h
  | _ :: _, [], h => by simp at h
  | true :: io, t :: l, h => by simp [maskE, maskE_len (io := io) (l := l) (by simpa using h)]
  | false :: io, t :: l, h => by simp [maskE, maskE_len (io := io) (l := l) (by simpa using h)]
theorem maskE_get : ∀ {io : List Bool} {l : Env} {j : Nat} {t : T}, (maskE io l)[j]? = some (some t) ↔ io[j]? = some true ∧ l[j]? = some (some t)
  | [], l, j, t => by simp [maskE]
  | _ :: _, [], j, t => by
    rename_i b io
    cases b <;> simp [maskE]
  | true :: io, x :: l, 0, t => by simp [maskE]
  | false :: io, x :: l, 0, t => by simp [maskE]
  | true :: io, x :: l, j + 1, t => by simp only [maskE, List.getElem?_cons_succ]; exact maskE_get
  | false :: io, x :: l, j + 1, t => by simp only [maskE, List.getElem?_cons_succ]; exact maskE_get
theorem Sst.start {ts : List T} {vs : List V} {N : List Str} {n : Nat} (st : Sst C G H P (ts.map some) (vs.map some)) (hn : n = ts.length) : Sst C G H P (ts.map some ++ List.replicate (N.length - n) none) (L2.start N vs) := by
  have hl := st.len
  rw [List.length_map, List.length_map] at hl
  have nn : ∀ (j : Nat) (t : T), (ts.map some ++ List.replicate (N.length - n) (none : Option T))[j]? = some (some t) → (ts.map some)[j]? = some (some t) := by
    intro j t h
    rw [List.getElem?_append] at h
    split at h
    · exact h
    · rw [List.getElem?_replicate] at h
      split at h <;> cases h
  refine ⟨?_, st.gh, fun i t e => ?_, fun i a h => ?_, st.dj⟩
  · unfold L2.start
    simp only [List.length_append, List.length_map, List.length_replicate]
    omega
  · obtain ⟨v, h1, h2⟩ := st.sl i t (nn i t e)
    refine ⟨v, ?_, h2⟩
    unfold L2.start
    rw [List.getElem?_append_left (ltOf h1)]
    exact h1
  · obtain ⟨t, e⟩ := st.pe i a h
    refine ⟨t, ?_⟩
    rw [List.getElem?_append_left (ltOf e)]
    exact e
/-- what the parameters are behind the body -/
theorem Sst.mask {io : List Bool} {as : List Nat} {vs : List V} {N : List Str} (st : Sst C G' H' P' r' σ') (f : Fr as (L2.start N vs) σ') (ho : ioOk io as = true) (hl : vs.length = io.length) (hN : io.length ≤ N.length) :
    Sst C G' H' (fun j a => io[j]? = some true ∧ P' j a) (maskE io (r'.take io.length)) (vs.map some) := by
  have lσ : σ'.length = N.length := by
    rw [f.1]; unfold L2.start; simp only [List.length_append, List.length_map, List.length_replicate]; omega
  have lr : (r'.take io.length).length = io.length := by rw [List.length_take, st.len, lσ]; omega
  refine ⟨?_, st.gh, fun i t e => ?_, fun i a h => ?_, fun i j a h1 h2 => st.dj i j a h1.2 h2.2⟩
  · rw [maskE_len lr, List.length_map, hl]
  · obtain ⟨e1, e2⟩ := maskE_get.mp e
    have hi : i < io.length := ltOf e1
    rw [List.getElem?_take_of_lt hi] at e2
    obtain ⟨v, h1, h2⟩ := st.sl i t e2
    have hni : i ∉ as := fun z => by
      have := List.all_eq_true.mp ho i z
      rw [e1] at this
      cases this
    rw [f.2 i hni] at h1
    refine ⟨v, ?_, ?_⟩
    · unfold L2.start at h1
      rw [List.getElem?_append_left (by rw [List.length_map, hl]; exact hi)] at h1
      exact h1
    · have : (fun a => io[i]? = some true ∧ P' i a) = P' i := by
        funext a
        exact propext ⟨fun h => h.2, fun h => ⟨e1, h⟩⟩
      rw [this]; exact h2
  · obtain ⟨t, e⟩ := st.pe i a h.2
    exact ⟨t, maskE_get.mpr ⟨h.1, by rw [List.getElem?_take_of_lt (ltOf h.1)]; exact e⟩⟩
end
section
variable {P : Program} {w : World} {K : PySem.W.Frag} {mg : Str → Option Value} {base : Heap} {C : Ct} {k : Nat} {x qual : Str} {params : Arguments} {body : List Stmt} {scope : Scope} {f : Addr} {fd : FuncData} {c : Cc} {ps : List Str} {b : S} {io : List Bool}
theorem GOk.mono {j : Nat} {gi : GI} (h : j ≤ k) (g : GOk P w K mg base C j x gi) : GOk P w K mg base C k x gi := by
  cases gi with
  | fn fn =>
    obtain ⟨a, fd, ps, g1, g2, g3, g4⟩ := g
    exact ⟨a, fd, ps, g1, g2.mono h, g3, g4⟩
  | con d => exact g
  | blt => exact g
  | cls _ fo =>
    intro f hf
    obtain ⟨j, fa, fd, ps, g1, g2⟩ := (g f hf).ex
    exact ⟨j, fa, fd, ps, Nat.le_trans g1 h, g2⟩
theorem fn_ok (F : FunD K x qual params body scope [] [] f fd) (S : FnScope c.N ps c.sc) (hsc : c.sc = scope) (hK : K = C.K ∧ w = C.w) (hb : css 4194304 c body = some b) (hl : io.length = ps.length) (ho : ioOk io b.asgs = true)
    (hg : ∀ x gi, c.g x = some gi → GOk P w K mg base C k x gi) (hfl : ∀ m q i, c.fl m q = some i → FOk K C q m i) (hms : ∀ m io tb, c.ms m = some (io, tb) → ∀ q f, tb q = some f → f.io = io ∧ MOk P w K mg base C k q m f) : FnOk P w K mg base CX0 (k + 1) f fd ps (spFn C (mkFn c.N.length io b)) := by
  subst hsc
  have hpl : ps.length ≤ c.N.length := by have := congrArg List.length S.pre; rw [List.length_take] at this; omega
  refine F.ok S (fun vs H Q E h => ?_) (fun cdv A outer s H vs Q E hr h => ⟨tS C b, PSs.nox ((okS C k 4194304).ss hb ?_), ?_⟩)
  · have := spFn_len h
    rw [this]; exact hl
  · exact { hK := hK.1, hw := hK.2, hN := rfl, nd := S.nd, sc := rfl, calm := rfl, cell := fun _ _ => rfl, room := hr, g := hg, fl := hfl, ms := hms, kd := S.kind, po := PassesOwn.never }
  · obtain ⟨G, P0, ts, t, rp, st, hrun, hlen, kk⟩ := h
    have hvl : vs.length = io.length := by
      have := st.len
      rw [List.length_map, List.length_map] at this
      rw [← this, hlen]; rfl
    have hlen' : ts.length = io.length := hlen
    refine ⟨G, P0, _, st.start (N := c.N) (n := io.length) (by omega), ?_⟩
    simp only [mkFn] at hrun
    rw [if_pos hlen'] at hrun
    have hmask : ∀ (r' : Env) (σ' : St) (G' H' : Hp) (P' : Nat → Addr → Prop), Sst C G' H' P' r' σ' → Fr b.asgs (L2.start c.N vs) σ' → Sst C G' H' (fun j a => io[j]? = some true ∧ P' j a) (maskE io (r'.take io.length)) (vs.map some) := fun r' σ' G' H' P' st' f' => st'.mask f' ho hvl (by omega)
    cases he : evS b (ts.map some ++ List.replicate (c.N.length - io.length) none) with
    | nx r' =>
      rw [he] at hrun
      cases hrun
      exact fun σ' G' H' P' st' s' f' => kk .non G' H' _ (fun _ => False) (hmask r' σ' G' H' P' st' f') (s'.sub fun _ _ z => z.2) (.fr .non fun _ z => z) (fun _ _ z => z.elim) fun _ z => z.elim
    | rt t' r' =>
      rw [he] at hrun
      cases hrun
      exact fun v σ' G' H' P' A st' s' o n bb f' => kk v G' H' _ A (hmask r' σ' G' H' P' st' f') (s'.sub fun _ _ z => z.2) o (fun i a ha z => n i a ha z.2) bb
    | bk r' => rw [he] at hrun; cases hrun
    | ct r' => rw [he] at hrun; cases hrun
    | stuck => rw [he] at hrun; cases hrun
/-- the same as the name stands for it -/
theorem fn_gok (F : FunD K x qual params body scope [] [] f fd) (S : FnScope c.N ps c.sc) (hsc : c.sc = scope) (hK : K = C.K ∧ w = C.w) (hb : css 4194304 c body = some b) (hl : io.length = ps.length) (ho : ioOk io b.asgs = true) (hm : mg x = some (.ref f))
    (hbd : ∀ (kV doc pm : Value) (an : Option Addr) (cdv ct : Value) (us : List Value), us.length = ps.length → bindArgs (PySem.W.fnOf x qual params body scope .none kV doc pm an cdv ct) ⟨us, []⟩ = pure (ps.zip us))
    (hg : ∀ x gi, c.g x = some gi → GOk P w K mg base C k x gi) (hfl : ∀ m q i, c.fl m q = some i → FOk K C q m i) (hms : ∀ m io tb, c.ms m = some (io, tb) → ∀ q f, tb q = some f → f.io = io ∧ MOk P w K mg base C k q m f) : GOk P w K mg base C (k + 1) x (.fn (mkFn c.N.length io b)) :=
  ⟨f, fd, ps, hm, fn_ok F S hsc hK hb hl ho hg hfl hms, F.kp, F.bindsN hbd⟩
theorem tab_ok {tab : List (Str × GI)} (h : ∀ p ∈ tab, GOk P w K mg base C k p.1 p.2) : ∀ x gi, tab.lookup x = some gi → GOk P w K mg base C k x gi := by
  intro x gi e
  induction tab with
  | nil => cases e
  | cons p tab ih =>
    obtain ⟨y, g⟩ := p
    rw [List.lookup_cons] at e
    split at e
    · rename_i hxy
      have : x = y := by simpa using hxy
      cases e
      rw [this]
      exact h _ (List.mem_cons_self ..)
    · exact ih (fun p hp => h p (List.mem_cons_of_mem _ hp)) e
theorem gok_int {i : Int} (h : ∃ t, mg x = some (.int i t)) : GOk P w K mg base C k x (.con (.int i)) := by
  obtain ⟨t, ht⟩ := h
  exact ⟨_, .int i, ht, ⟨t, rfl⟩, fun _ => .int⟩
theorem gok_str {z : Str} (h : ∃ t, mg x = some (.str z t)) : GOk P w K mg base C k x (.con (.str z)) := by
  obtain ⟨t, ht⟩ := h
  exact ⟨_, .str z, ht, ⟨t, rfl⟩, fun _ => .str⟩
/-- the classes by number -/
abbrev CtOf (K : PySem.W.Frag) (w : World) (CN : List Str) (CF : List (List Str)) : Ct := ⟨K, fun c => He.ga K (CN.getD c ""), fun c => CF.getD c [], w⟩
/-- the entries in their order -/
def pairB : List DictEntry → List (Str × Int) → Bool
  | [], [] => true
  | e :: es, q :: r => (match e.key, e.val with
    | .str x _, .int j _ => decide (x = q.1) && decide (j = q.2)
    | _, _ => false) && pairB es r
  | _, _ => false
def ordB (K : PySem.W.Frag) (a : Addr) (kvs : List (Str × Int)) : Bool := match K.lookup a with
  | some ⟨_, _, .dict es _, _⟩ => pairB es.toList kvs && decide (kvs.map (·.1)).Nodup
  | _ => false
theorem pair_ok : ∀ {es : List DictEntry} {kvs : List (Str × Int)}, pairB es kvs = true → KPairs es (kvs.map (·.1)) ((kvs.map (·.2)).map V.int)
  | [], [], _ => .nil
  | [], _ :: _, h => by cases h
  | _ :: _, [], h => by cases h
  | e :: es, q :: r, h => by
    obtain ⟨k, i⟩ := q
    unfold pairB at h
    rw [Bool.and_eq_true] at h
    obtain ⟨h1, h2⟩ := h
    cases hk : e.key with
    | str x t =>
      cases hv : e.val with
      | int j u =>
        rw [hk, hv] at h1
        simp only [Bool.and_eq_true, decide_eq_true_eq] at h1
        obtain ⟨rfl, rfl⟩ := h1
        exact .cons hk (by rw [hv]; exact ⟨u, rfl⟩) (pair_ok h2)
      | _ => rw [hk, hv] at h1; cases h1
    | _ => rw [hk] at h1; cases h1
/-- a written dict from texts to ints: there, not there -/
def tabI (K : PySem.W.Frag) (a : Addr) (kvs : List (Str × Int)) (ms : List Str) : Bool := ordB K a kvs && ((kvs.all fun q => match PySem.W.nsIn K a q.1 with
    | some (some (.int j _)) => decide (j = q.2)
    | _ => false) && ms.all fun m => match PySem.W.nsIn K a m with
    | some none => true
    | _ => false)
theorem reps_ints {C : Ct} {G : Hp} : ∀ l : List Int, Reps C G (l.map .int) (l.map .int)
  | [] => .nil
  | _ :: l => .cons .int (reps_ints l)
theorem gok_tab {CN : List Str} {CF : List (List Str)} {kvs : List (Str × Int)} {ms : List Str} (hm : mg x = some (.ref (He.ga K x))) (t : ∃ es n, KDict K w (He.ga K x) es n) (h : tabI K (He.ga K x) kvs ms = true) :
    GOk P w K mg base (CtOf K w CN CF) k x (.con (.tab (kvs.map (·.1)) ((kvs.map (·.2)).map .int) ms)) := by
  obtain ⟨es, n, h1, h2, h3⟩ := t
  unfold tabI at h
  rw [Bool.and_eq_true, Bool.and_eq_true] at h
  obtain ⟨ho, h⟩ := h
  have kits : KIts K w (He.ga K x) (kvs.map (·.1)) ((kvs.map (·.2)).map V.int) := by
    unfold ordB at ho
    rw [h1] at ho
    simp only [Bool.and_eq_true, decide_eq_true_eq] at ho
    exact ⟨es, n, ⟨h1, h2, h3⟩, ho.2, pair_ok ho.1⟩
  refine ⟨_, .ref (He.ga K x), hm, rfl, fun G => .tab (vs := (kvs.map (·.2)).map .int) kits h3 (fun i q hi => ?_) (fun m hmm => ?_) (reps_ints _)⟩
  · rw [List.getElem?_map] at hi
    cases hk : kvs[i]? with
    | none => rw [hk] at hi; cases hi
    | some p =>
      rw [hk] at hi
      cases hi
      refine ⟨.int p.2, by rw [List.getElem?_map, List.getElem?_map, hk]; rfl, es, n, ?_⟩
      have := List.all_eq_true.mp h.1 p (List.mem_of_getElem? hk)
      split at this
      · rename_i j tk hn
        have : j = p.2 := by simpa using this
        subst this
        exact ⟨_, h1, h2, hn, ⟨tk, rfl⟩⟩
      · cases this
  · have := List.all_eq_true.mp h.2 m hmm
    split at this
    · rename_i hn
      exact ⟨es, n, h1, h2, h3, hn⟩
    · cases this
theorem slotOf_mem {x : Str} {N : List Str} {i : Nat} (h : slotOf x N = some i) : x ∈ N := List.mem_of_getElem? (slotOf_ok h)
theorem fl_ok {CN : List Str} {CF : List (List Str)} (hlen : CN.length = CF.length) (h : ∀ p ∈ CN.zip CF, Cls K (He.ga K p.1) ∧ p.2.Nodup ∧ p.2.length < 1000 ∧ ∀ m ∈ p.2, NoAttr K (He.ga K p.1) m) :
    ∀ m q i, slotOf m (CF.getD q []) = some i → FOk K (CtOf K w CN CF) q m i := by
  intro m q i hs
  have hq : q < CF.length := by
    by_cases hq : q < CF.length
    · exact hq
    · rw [List.getD_eq_getElem?_getD, List.getElem?_eq_none (by omega)] at hs
      cases hs
  have e1 : CF.getD q [] = CF[q] := by rw [List.getD_eq_getElem?_getD, List.getElem?_eq_getElem hq]; rfl
  have e2 : CN.getD q "" = CN[q] := by rw [List.getD_eq_getElem?_getD, List.getElem?_eq_getElem (by omega)]; rfl
  have hz : (CN[q], CF[q]) ∈ CN.zip CF := by
    refine List.mem_of_getElem? (i := q) ?_
    rw [List.getElem?_zip_eq_some]
    exact ⟨List.getElem?_eq_getElem (by omega), List.getElem?_eq_getElem hq⟩
  obtain ⟨h1, h2, h3, h4⟩ := h _ hz
  rw [e1] at hs
  refine ⟨?_, ?_, ?_, ?_, ?_⟩
  · show Cls K (He.ga K (CN.getD q "")); rw [e2]; exact h1
  · show NoAttr K (He.ga K (CN.getD q "")) m; rw [e2]; exact h4 m (slotOf_mem hs)
  · show (CF.getD q [])[i]? = some m; rw [e1]; exact slotOf_ok hs
  · show (CF.getD q []).Nodup; rw [e1]; exact h2
  · show (CF.getD q []).length < 1000; rw [e1]; exact h3
abbrev MTab : Type := List (Str × List Bool × List (Nat × Fn))
abbrev msOf (t : MTab) (m : Str) : Option (List Bool × (Nat → Option Fn)) := (t.lookup m).map fun x => (x.1, fun q => x.2.lookup q)
theorem lookup_mem {α β : Type} [BEq α] [LawfulBEq α] {x : α} {y : β} : ∀ {l : List (α × β)}, l.lookup x = some y → (x, y) ∈ l
  | [], h => by cases h
  | (a, b) :: l, h => by
    rw [List.lookup_cons] at h
    split at h
    · rename_i e
      cases h
      rw [beq_iff_eq] at e
      rw [e]; exact List.mem_cons_self ..
    · exact List.mem_cons_of_mem _ (lookup_mem h)
theorem ms_ok {t : MTab} (h : ∀ e ∈ t, ∀ p ∈ e.2.2, p.2.io = e.2.1 ∧ MOk P w K mg base C k p.1 e.1 p.2) : ∀ m io tb, msOf t m = some (io, tb) → ∀ q f, tb q = some f → f.io = io ∧ MOk P w K mg base C k q m f := by
  intro m io tb hm q f hf
  unfold msOf at hm
  cases hl : t.lookup m with
  | none => rw [hl] at hm; cases hm
  | some x =>
    rw [hl] at hm
    cases hm
    exact h _ (lookup_mem hl) _ (lookup_mem hf)
theorem MOk.mono {j : Nat} {q : Nat} {m : Str} {g : Fn} (h : j ≤ k) (g0 : MOk P w K mg base C j q m g) : MOk P w K mg base C k q m g := by
  obtain ⟨fa, fd, ps, a1, a2, a3, a4, a5⟩ := g0.ex
  exact ⟨fa, fd, ps, a1, a2, a3.mono h, a4, a5⟩
/-- a method as the class's name stands for it -/
theorem me_ok {CN : List Str} {CF : List (List Str)} {q : Nat} {m y : Str} {g : Fn} (hy : CN.getD q "" = y) (hc : Cls K (He.ga K y)) (hm : Meth K (He.ga K y) m (He.ma K (He.ga K y) m)) (F : FnOk P w K mg base CX0 k (He.fAd K (y, some m)) fd ps (spFn (CtOf K w CN CF) g)) (hb : Binds K fd ps []) (hn : m ∉ CF.getD q []) : MOk P w K mg base (CtOf K w CN CF) k q m g :=
  ⟨_, fd, ps, by show Cls K (He.ga K (CN.getD q "")); rw [hy]; exact hc, by show Meth K (He.ga K (CN.getD q "")) m _; rw [hy]; exact hm, F, hb, hn⟩
theorem ne_ok {CN : List Str} {CF : List (List Str)} {q j : Nat} {y : Str} {g : Fn} (hj : j + 1 ≤ k) (hy : CN.getD q "" = y) (hm : mg y = some (.ref (He.ga K y))) (M : Mk K (He.ga K y) (He.ma K (He.ga K y) "__init__")) (F : FnOk P w K mg base CX0 j (He.fAd K (y, some "__init__")) fd ps (spFn (CtOf K w CN CF) g)) (hb : Binds K fd ps []) :
    GOk P w K mg base (CtOf K w CN CF) k y (.cls q (some g)) := by
  intro f hf
  cases hf
  exact ⟨j, _, fd, ps, hj, by show mg y = some (.ref (He.ga K (CN.getD q ""))); rw [hy]; exact hm, by show Mk K (He.ga K (CN.getD q "")) _; rw [hy]; exact M, F, hb⟩
/-- a law's promise -/
theorem law_sp {f : Fn} {a : Addr} {ns : List Int} {H : Hp} {Q : VK} {E : XK} (hK : K = C.K) (hl : f.io.length = 1) (hf : ∃ rp, f.run [.fr (.scr ns)] = some (.fr (.bl true), rp)) (h : SqL K H a (ns.map V.int)) (hQ : ∀ H', Q (.bl true) H') : spFn C f [.ref a] H Q E := by
  obtain ⟨rp, hf⟩ := hf
  refine ⟨H, fun _ _ => False, [.fr (.scr ns)], _, rp, ⟨rfl, Same.refl _, fun i t e => ?_, fun _ _ z => z.elim, fun _ _ _ z => z.elim⟩, hf, by rw [hl]; rfl, fun v G' H' P' A st s o n bb => ?_⟩
  · cases i with
    | zero =>
      cases e
      exact ⟨_, rfl, .fr (.scr (by rw [← hK]; exact h)) fun _ z => z⟩
    | succ i => cases e
  · cases o with
    | fr rp _ =>
      cases rp.bli
      exact hQ _
end
end FJ

/-! Plain rules for what the small language computes. -/
namespace FJ
open PySem L2

theorem forL_ind {bf : Env → O} {tg : Tg} {r : Env} {ds : List D} (I : Nat → Env → Prop) (h0 : I 0 r)
    (step : ∀ i d r, ds[i]? = some d → I i r → ∃ r1 r2, tg.bind d r = some r1 ∧ (bf r1 = .nx r2 ∨ bf r1 = .ct r2) ∧ I (i + 1) r2) : ∃ r', forL bf tg ds r = .nx r' ∧ I ds.length r' := by
  have main : ∀ (l : List D) (n : Nat) (r : Env), (∀ i d, l[i]? = some d → ds[n + i]? = some d) → I n r → ∃ r', forL bf tg l r = .nx r' ∧ I (n + l.length) r' := by
    intro l
    induction l with
    | nil => intro n r _ hI; exact ⟨r, by simp [forL], by simpa using hI⟩
    | cons d l ih =>
      intro n r hl hI
      obtain ⟨r1, r2, h1, h2, h3⟩ := step n d r (by simpa using hl 0 d rfl) hI
      obtain ⟨r', h4, h5⟩ := ih (n + 1) r2 (fun i e hi => by rw [show n + 1 + i = n + (i + 1) by omega]; exact hl (i + 1) e (by simpa using hi)) h3
      refine ⟨r', ?_, by rw [List.length_cons, show n + (l.length + 1) = n + 1 + l.length by omega]; exact h5⟩
      rcases h2 with h2 | h2 <;> simp [forL, h1, h2, h4]
  obtain ⟨r', h1, h2⟩ := main ds 0 r (fun i d h => by simpa using h) h0
  exact ⟨r', h1, by simpa using h2⟩
theorem compL_map {cf : Env → Option (Bool × Env)} {ef : Env → R} {i : Nat} {r : Env} {g : D → D} : ∀ {ds acc : List D}, r.set i none = r → (∀ d ∈ ds, cf (r.set i (some (.fr d))) = some (true, r.set i (some (.fr d)))) →
    (∀ d ∈ ds, ef (r.set i (some (.fr d))) = .ok (.v (.fr (g d))) (r.set i (some (.fr d)))) → acc.length + ds.length ≤ sizeLine → compL cf ef (.name i) ds r acc = .ok (acc ++ ds.map g) r
  | [], acc, _, _, _, _ => by simp [compL]
  | d :: ds, acc, hr, hc, he, hl => by
    have hw : wipeE (Tg.name i).slots (useE false (.v (.fr (g d))) (r.set i (some (.fr d)))) = r := by
      simp only [Tg.slots, wipeE, useE, List.set_set]; exact hr
    simp only [List.length_cons] at hl
    simp only [compL, Tg.bind, hc d (List.mem_cons_self ..), he d (List.mem_cons_self ..), hw]
    rw [if_pos (by omega), compL_map hr (fun d h => hc d (List.mem_cons_of_mem _ h)) (fun d h => he d (List.mem_cons_of_mem _ h)) (by simp; omega)]
    simp [Val.toD, T.toD]
@[simp] theorem eqD_int (i j : Int) : eqD (.int i) (.int j) = some (decide (i = j)) := by
  simp [eqD, cmpble, D.plain, D.py, PyData.eqv, Bool.beq_eq_decide_eq]
@[simp] theorem eqD_bl (i j : Bool) : eqD (.bl i) (.bl j) = some (i == j) := by
  simp [eqD, cmpble, D.plain, D.py, PyData.eqv]
@[simp] theorem eqD_str (i j : Str) : eqD (.str i) (.str j) = some (i == j) := by
  simp [eqD, cmpble, D.plain, D.py, PyData.eqv]
@[simp] theorem inD_one (c : Nat) (z : Str) : inD (.str ⟨#[c]⟩) (.str z) = some (decide (c ∈ z.cps.toList)) := by
  simp [inD]
/-! ### steps: Tag keeps what comes behind from being looked at too early -/
structure Tag {α : Sort _} (a : α) : Type where
  mk ::
def useT (p : Bool) (q : R) (k : D → Env → R) (_ : Tag k) : R := R.use p q k
def lookT (p : Bool) (q : R) (k : D → Env → R) (_ : Tag k) : R := R.look p q k
def bT {α : Type} (q : R) (s : α) (k : Val → Env → α) (_ : Tag k) : α := match q with
  | .ok x r => k x r
  | .stuck => s
def lT {α : Type} (q : RL) (s : α) (k : List D → Env → α) (_ : Tag k) : α := match q with
  | .ok x r => k x r
  | .stuck => s
def aT {α : Type} (q : RA) (s : α) (k : List T → Env → α) (_ : Tag k) : α := match q with
  | .ok x r => k x r
  | .stuck => s
def oT {α β : Type} (q : Option α) (s : β) (k : α → β) (_ : Tag k) : β := match q with
  | some x => k x
  | none => s
section
variable {x : Val} {r : Env} {p : Bool} {k : D → Env → R} {tg : Tag k} {t : T} {d : D} {i : Nat} {a b c : E} {α β : Type}
@[simp] theorem useT_ok : useT p (.ok x r) k tg = k x.toD (useE p x r) := rfl
@[simp] theorem lookT_ok : lookT p (.ok x r) k tg = k x.toD (lookE p x r) := rfl
@[simp] theorem bT_ok {s : α} {k : Val → Env → α} {tg : Tag k} : bT (.ok x r) s k tg = k x r := rfl
@[simp] theorem lT_ok {s : α} {ds : List D} {k : List D → Env → α} {tg : Tag k} : lT (.ok ds r) s k tg = k ds r := rfl
@[simp] theorem aT_ok {s : α} {ds : List T} {k : List T → Env → α} {tg : Tag k} : aT (.ok ds r) s k tg = k ds r := rfl
@[simp] theorem oT_some {s : β} {y : α} {k : α → β} {tg : Tag k} : oT (some y) s k tg = k y := rfl
@[simp] theorem useE_v : useE p (.v t) r = r := rfl
@[simp] theorem useE_bt : useE true (.b i (.ow d)) r = r := by simp [useE, T.soft]
@[simp] theorem useE_bf : useE false (.b i t) r = frz i r := by simp [useE]
@[simp] theorem lookE_v : lookE p (.v t) r = r := rfl
@[simp] theorem lookE_bt : lookE true (.b i t) r = r := by simp [lookE]
@[simp] theorem lookE_bf : lookE false (.b i t) r = frz i r := by simp [lookE]
@[simp] theorem toD_v : (Val.v t).toD = t.toD := rfl
@[simp] theorem toD_b : (Val.b i t).toD = t.toD := rfl
@[simp] theorem toD_fr : (T.fr d).toD = d := by simp [T.toD]
@[simp] theorem toD_ow : (T.ow d).toD = d := by simp [T.toD]
@[simp] theorem ofT_some : ofT (some t) r = .ok (.v t) r := rfl
@[simp] theorem ofD_some : ofD (some d) r = .ok (.v (.fr d)) r := rfl
@[simp] theorem F_eq : F d r = .ok (.v (.fr d)) r := rfl
@[simp] theorem ofT_ite {q : Prop} [Decidable q] {u v : Option T} : ofT (if q then u else v) r = if q then ofT u r else ofT v r := by split <;> rfl
@[simp] theorem tru_bl {b : Bool} : R.tru (.ok (.v (.fr (.bl b))) r) = some (b, r) := by simp [R.tru, truD]
@[simp] theorem tru_int {b : Int} : R.tru (.ok (.v (.fr (.int b))) r) = some (b != 0, r) := by simp [R.tru, truD]
theorem tru_ok' {y : Bool} (h : truD x.toD = some y) : R.tru (.ok x r) = some (y, lookE true x r) := R.tru_of h
@[simp] theorem ite_and {q : Prop} [Decidable q] {y : Bool} : (if q then R.ok (.v (.fr (.bl y))) r else R.ok (.v (.fr (.bl false))) r) = .ok (.v (.fr (.bl (decide q && y)))) r := by
  by_cases h : q <;> simp [h]
@[simp] theorem ite_or {q : Prop} [Decidable q] {y : Bool} : (if q then R.ok (.v (.fr (.bl true))) r else R.ok (.v (.fr (.bl y))) r) = .ok (.v (.fr (.bl (decide q || y)))) r := by
  by_cases h : q <;> simp [h]
@[simp] theorem ev_var : ev (.var i) r = match r[i]? with
    | some (some (.fr d)) => F d r
    | some (some t) => .ok (.b i t) r
    | _ => .stuck := by simp only [ev] <;> rfl
@[simp] theorem ev_cst : ev (.cst d) r = .ok (.v (.fr d)) r := by simp only [ev] <;> rfl
@[simp] theorem ev_neg : ev (.neg a) r = useT true (ev a r) (fun d r => match d with
    | .int i => F (.int (-i)) r
    | _ => .stuck) ⟨⟩ := by simp only [ev] <;> rfl
@[simp] theorem ev_bin {o : Bop} : ev (.bin o a b) r = useT b.pu (ev a r) (fun x r => useT true (ev b r) (fun y r => ofT (binD o x y) r) ⟨⟩) ⟨⟩ := by simp only [ev] <;> rfl
@[simp] theorem ev_cmp {o : Cop} : ev (.cmp o a b) r = lookT b.pu (ev a r) (fun x r => lookT true (ev b r) (fun y r => ofD ((cmpD o x y).map .bl) r) ⟨⟩) ⟨⟩ := by simp only [ev] <;> rfl
@[simp] theorem ev_chain {o u : Cop} : ev (.chain o u a b c) r = lookT b.pu (ev a r) (fun x r => lookT c.pu (ev b r) (fun y r => oT (cmpD o x y) .stuck (fun k => if k = true then lookT true (ev c r) (fun z r => ofD ((cmpD u y z).map .bl) r) ⟨⟩ else F (.bl false) r) ⟨⟩) ⟨⟩) ⟨⟩ := by
  simp only [ev]
  show R.look _ _ _ = R.look _ _ _
  congr 1
  funext x r
  show R.look _ _ _ = R.look _ _ _
  congr 1
  funext y r
  cases cmpD o x y with
  | none => rfl
  | some k => cases k <;> rfl
@[simp] theorem ev_and : ev (.and a b) r = lookT true (ev a r) (fun x r => match x with
    | .bl k => if k = true then ev b r else .ok (.v (.fr (.bl false))) r
    | _ => .stuck) ⟨⟩ := by
  simp only [ev]
  show R.look _ _ _ = R.look _ _ _
  congr 1
  funext x r
  cases x with
  | bl k => cases k <;> rfl
  | _ => rfl
@[simp] theorem ev_or : ev (.or a b) r = lookT true (ev a r) (fun x r => match x with
    | .bl k => if k = true then .ok (.v (.fr (.bl true))) r else ev b r
    | _ => .stuck) ⟨⟩ := by
  simp only [ev]
  show R.look _ _ _ = R.look _ _ _
  congr 1
  funext x r
  cases x with
  | bl k => cases k <;> rfl
  | _ => rfl
@[simp] theorem ev_not : ev (.not a) r = oT (ev a r).tru .stuck (fun q => .ok (.v (.fr (.bl (!q.1)))) q.2) ⟨⟩ := by
  simp only [ev]
  cases (ev a r).tru <;> rfl
@[simp] theorem ev_ite : ev (.ite c a b) r = oT (ev c r).tru .stuck (fun q => if q.1 = true then ev a q.2 else ev b q.2) ⟨⟩ := by
  simp only [ev]
  cases (ev c r).tru with
  | none => rfl
  | some q =>
    obtain ⟨k, r⟩ := q
    cases k <;> rfl
@[simp] theorem ev_tup {es : Es} : ev (.tup es) r = lT (evs es r) .stuck (fun ds r => if ds.length ≤ sizeLine then .ok (.v (.fr (.tup ds))) r else .stuck) ⟨⟩ := by simp only [ev]; cases evs es r <;> rfl
@[simp] theorem ev_lst {es : Es} : ev (.lst es) r = lT (evs es r) .stuck (fun ds r => if ds.length ≤ sizeLine then .ok (.v (.ow (.lst ds))) r else .stuck) ⟨⟩ := by simp only [ev]; cases evs es r <;> rfl
@[simp] theorem ev_dnew {t : Bool} : ev (.dnew t) r = .ok (.v (.ow (if t then .dT [] [] else .dK [] []))) r := by simp only [ev]
@[simp] theorem ev_tupo {as : Ar} : ev (.tupo as) r = aT (eva as r) .stuck (fun ts r => if ts.length ≤ sizeLine then .ok (.v (.nt ts)) r else .stuck) ⟨⟩ := by simp only [ev]; cases eva as r <;> rfl
def subT (q : R) (k : Nat) : R := match subO q k with
  | some q => q
  | none => q.use true fun x r => ofD (idxD x (.int k)) r
@[simp] theorem ev_sub {k : Nat} : ev (.sub a k) r = subT (ev a r) k := by simp only [ev]; rfl
@[simp] theorem subT_nt {ts : List T} {k : Nat} : subT (.ok (.b i (.nt ts)) r) k = match ts[k]? with
    | some t => .ok (brw i t) r
    | none => .stuck := rfl
@[simp] theorem subT_v {k : Nat} : subT (.ok (.v t) r) k = ofD (idxD t.toD (.int k)) r := rfl
@[simp] theorem brw_fr : brw i (.fr d) = .v (.fr d) := rfl
@[simp] theorem brw_ow : brw i (.ow d) = .b i (.ow d) := rfl
@[simp] theorem brw_nt {ts : List T} : brw i (.nt ts) = .b i (.nt ts) := rfl
@[simp] theorem toD_nt {ts : List T} : (T.nt ts).toD = .tup (T.toDs ts) := by simp [T.toD]
@[simp] theorem toDs_nil : T.toDs [] = [] := by simp [T.toDs]
@[simp] theorem toDs_cons {ts : List T} : T.toDs (t :: ts) = t.toD :: T.toDs ts := by simp [T.toDs]
@[simp] theorem ev_lend : ev (.lend a) r = bT (ev a r) .stuck (fun x _ => if a.pu && atomD x.toD then .ok (.v (.fr x.toD)) r else .stuck) ⟨⟩ := by simp only [ev]; cases ev a r <;> rfl
@[simp] theorem ev_idx : ev (.idx a b) r = useT b.pu (ev a r) (fun x r => useT true (ev b r) (fun k r => ofD (idxD x k) r) ⟨⟩) ⟨⟩ := by simp only [ev] <;> rfl
@[simp] theorem ev_sli {lo hi : Oe} : ev (.sli a lo hi) r = useT (lo.pu && hi.pu) (ev a r) (fun x r => oT (evo lo r) .stuck (fun l => oT (evo hi l.2) .stuck (fun h => ofT (sliD x l.1 h.1) h.2) ⟨⟩) ⟨⟩) ⟨⟩ := by
  simp only [ev]
  show R.use _ _ _ = R.use _ _ _
  congr 1
  funext x r
  cases evo lo r with
  | none => rfl
  | some l =>
    simp only [oT_some]
    cases evo hi l.2 <;> rfl
@[simp] theorem ev_fld {f : Nat → Option Nat} : ev (.fld a f) r = useT true (ev a r) (fun x r => ofD (fldD f x) r) ⟨⟩ := by simp only [ev] <;> rfl
@[simp] theorem ev_isi {t : Ty} : ev (.isi a t) r = lookT true (ev a r) (fun d r => ofD ((isD t d).map .bl) r) ⟨⟩ := by simp only [ev] <;> rfl
@[simp] theorem ev_bi {f : BI} {es : Es} : ev (.bi f es) r = lT (evu es r) .stuck (fun ds r => ofT (biD f ds) r) ⟨⟩ := by simp only [ev]; cases evu es r <;> rfl
@[simp] theorem ev_mt {m : MT} {es : Es} : ev (.mt m a es) r = useT es.pu (ev a r) (fun x r => lT (evu es r) .stuck (fun ds r => ofT (mtD m x ds) r) ⟨⟩) ⟨⟩ := by
  simp only [ev]
  show R.use _ _ _ = R.use _ _ _
  congr 1
@[simp] theorem ev_call {f : Fn} {as : Ar} : ev (.call f as) r = aT (eva as r) .stuck (fun ts r => oT (f.run ts) .stuck (fun q => .ok (.v q.1) (putBack as f.io q.2 r)) ⟨⟩) ⟨⟩ := by
  simp only [ev]
  cases eva as r with
  | stuck => rfl
  | ok ts r =>
    simp only [aT_ok]
    cases f.run ts <;> rfl
@[simp] theorem evs_nil : evs .nil r = .ok [] r := by simp only [evs]
@[simp] theorem evs_cons {es : Es} : evs (.cons a es) r = bT (ev a r) .stuck (fun x r => lT (evs es (useE false x r)) .stuck (fun ds r => .ok (x.toD :: ds) r) ⟨⟩) ⟨⟩ := by
  simp only [evs]
  cases ev a r with
  | stuck => rfl
  | ok x r =>
    simp only [bT_ok]
    cases evs es (useE false x r) <;> rfl
@[simp] theorem evu_nil : evu .nil r = .ok [] r := by simp only [evu]
@[simp] theorem evu_cons {es : Es} : evu (.cons a es) r = bT (ev a r) .stuck (fun x r => lT (evu es (useE es.pu x r)) .stuck (fun ds r => .ok (x.toD :: ds) r) ⟨⟩) ⟨⟩ := by
  simp only [evu]
  cases ev a r with
  | stuck => rfl
  | ok x r =>
    simp only [bT_ok]
    cases evu es (useE es.pu x r) <;> rfl
@[simp] theorem evo_no : evo .no r = some (none, r) := by simp only [evo]
@[simp] theorem evo_so : evo (.so a) r = bT (ev a r) none (fun x r => match x.toD with
    | .int i => some (some i, lookE true x r)
    | _ => none) ⟨⟩ := by simp only [evo]; cases ev a r <;> rfl
@[simp] theorem evc_no : evc .no r = some (true, r) := by simp only [evc]
@[simp] theorem evc_so : evc (.so a) r = (ev a r).tru := by simp only [evc]
@[simp] theorem eva_nil : eva .nil r = .ok [] r := by simp only [eva]
@[simp] theorem eva_ci {as : Ar} : eva (.ci a as) r = bT (ev a r) .stuck (fun x r => aT (eva as (useE false x r)) .stuck (fun ts r => .ok (.fr x.toD :: ts) r) ⟨⟩) ⟨⟩ := by
  simp only [eva]
  cases ev a r with
  | stuck => rfl
  | ok x r =>
    simp only [bT_ok]
    cases eva as (useE false x r) <;> rfl
@[simp] theorem eva_cx {as : Ar} : eva (.cx i as) r = match r[i]? with
    | some (some t) => aT (eva as (r.set i none)) .stuck (fun ts r => .ok (t :: ts) r) ⟨⟩
    | _ => .stuck := by
  simp only [eva]
  cases r[i]? with
  | none => rfl
  | some o =>
    cases o with
    | none => rfl
    | some t =>
      simp only
      cases eva as (r.set i none) <;> rfl
@[simp] theorem eva_ct {as : Ar} : eva (.ct a as) r = bT (ev a r) .stuck (fun x r => aT (eva as (useE false x r)) .stuck (fun ts r => .ok ((match x with
        | .v t => t
        | .b _ t => .fr t.toD) :: ts) r) ⟨⟩) ⟨⟩ := by
  simp only [eva]
  cases ev a r with
  | stuck => rfl
  | ok x r =>
    simp only [bT_ok]
    cases eva as (useE false x r) <;> rfl
@[simp] theorem ev_dct {ks : List Key} {vs : Es} : ev (.dct ks vs) r = lT (evs vs r) .stuck (fun ds r => if ks.Nodup ∧ ks.length = ds.length ∧ ks ≠ [] ∧ ks.length ≤ 15 then .ok (.v (.ow (.dK ks ds))) r else .stuck) ⟨⟩ := by simp only [ev]; cases evs vs r <;> rfl
def newT (o : Option (T × Env)) (k : T → Env → R) : R := match o with
  | some (.fr .non, some t :: rp) => k t rp
  | _ => .stuck
@[simp] theorem newT_ok {rp : Env} {k : T → Env → R} : newT (some (.fr .non, some t :: rp)) k = k t rp := rfl
@[simp] theorem ev_new {cc : Nat} {f : Fn} {as : Ar} : ev (.new cc f as) r = aT (eva as r) .stuck (fun ts r => newT (f.run (.ow (.obj cc []) :: ts)) fun t rp => .ok (.v t) (putBack as f.io.tail rp r)) ⟨⟩ := by
  simp only [ev]
  cases eva as r with
  | stuck => rfl
  | ok ts r => rfl
def methT (ms : Nat → Option Fn) (ts : List T) (k : Fn → R) : R := match ts with
  | t :: _ => (match t.toD with
    | .obj c _ => (match ms c with
      | some f => k f
      | none => .stuck)
    | _ => .stuck)
  | [] => .stuck
theorem methT_ok {ms : Nat → Option Fn} {t : T} {ts : List T} {c : Nat} {ds : List D} {f : Fn} {k : Fn → R} (h : t.toD = .obj c ds) (hf : ms c = some f) : methT ms (t :: ts) k = k f := by
  simp only [methT, h, hf]
@[simp] theorem methT_fr {ms : Nat → Option Fn} {ts : List T} {c : Nat} {ds : List D} {k : Fn → R} : methT ms (.fr (.obj c ds) :: ts) k = (match ms c with
    | some f => k f
    | none => .stuck) := by simp [methT]
@[simp] theorem methT_ow {ms : Nat → Option Fn} {ts : List T} {c : Nat} {ds : List D} {k : Fn → R} : methT ms (.ow (.obj c ds) :: ts) k = (match ms c with
    | some f => k f
    | none => .stuck) := by simp [methT]
@[simp] theorem ev_meth {ms : Nat → Option Fn} {as : Ar} : ev (.meth ms as) r = aT (eva as r) .stuck (fun ts r => methT ms ts fun f => oT (f.run ts) .stuck (fun q => .ok (.v q.1) (putBack as f.io q.2 r)) ⟨⟩) ⟨⟩ := by
  simp only [ev]
  cases eva as r with
  | stuck => rfl
  | ok ts r =>
    cases ts with
    | nil => rfl
    | cons t ts =>
      simp only [aT_ok, methT]
      cases t.toD with
      | obj c ds =>
        simp only
        cases ms c with
        | none => rfl
        | some f =>
          simp only
          cases f.run (t :: ts) <;> rfl
      | _ => rfl
@[simp] theorem back_ct {as : Ar} {q : Bool} {io : List Bool} {y : Option T} {ts : Env} : putBack (.ct a as) (q :: io) (y :: ts) r = putBack as io ts r := by simp only [putBack]
@[simp] theorem back_ci {as : Ar} {q : Bool} {io : List Bool} {y : Option T} {ts : Env} : putBack (.ci a as) (q :: io) (y :: ts) r = putBack as io ts r := by simp only [putBack]
@[simp] theorem back_cx {as : Ar} {q : Bool} {io : List Bool} {y : Option T} {ts : Env} : putBack (.cx i as) (q :: io) (y :: ts) r = putBack as io ts (r.set i y) := by simp only [putBack]
@[simp] theorem back_nil {io : List Bool} {ts : Env} : putBack .nil io ts r = r := by simp only [putBack]
end

/-- how a statement ends -/
structure Ks where
  N : Env → Prop
  B : Env → Prop
  Cn : Env → Prop
  P : T → Env → Prop
def WPt (o : O) (K : Ks) (_ : Tag K) : Prop := match o with
  | .nx r => K.N r | .bk r => K.B r | .ct r => K.Cn r | .rt t r => K.P t r | .stuck => False
abbrev WP (o : O) (N B Cn : Env → Prop) (P : T → Env → Prop) : Prop := WPt o ⟨N, B, Cn, P⟩ ⟨⟩
section
variable {N B Cn : Env → Prop} {P : T → Env → Prop} {r : Env}
@[simp] theorem WP_nx {K : Ks} {tg : Tag K} : WPt (.nx r) K tg = K.N r := rfl
@[simp] theorem WP_bk {K : Ks} {tg : Tag K} : WPt (.bk r) K tg = K.B r := rfl
@[simp] theorem WP_ct {K : Ks} {tg : Tag K} : WPt (.ct r) K tg = K.Cn r := rfl
@[simp] theorem WP_rt {K : Ks} {tg : Tag K} {t : T} : WPt (.rt t r) K tg = K.P t r := rfl
theorem WP.mono {o : O} {N' B' C' : Env → Prop} {P' : T → Env → Prop} (h : WP o N B Cn P) (h1 : ∀ r, N r → N' r) (h2 : ∀ r, B r → B' r) (h3 : ∀ r, Cn r → C' r) (h4 : ∀ t r, P t r → P' t r) : WP o N' B' C' P' := by
  cases o with
  | nx r => exact h1 r h
  | bk r => exact h2 r h
  | ct r => exact h3 r h
  | rt t r => exact h4 t r h
  | stuck => exact h
@[simp] theorem WP_seq {a b : S} {K : Ks} {tg : Tag K} : WPt (evS (.seq a b) r) K tg = WPt (evS a r) ⟨fun r1 => WPt (evS b r1) K ⟨⟩, K.B, K.Cn, K.P⟩ ⟨⟩ := by
  simp only [evS]
  cases evS a r <;> rfl
@[simp] theorem WP_try {a b : S} {K : Ks} {tg : Tag K} : WPt (evS (.tryE a b) r) K tg = WPt (evS a r) ⟨fun r1 => WPt (evS b r1) K ⟨⟩, K.B, K.Cn, K.P⟩ ⟨⟩ := by
  simp only [evS]
  cases evS a r <;> rfl
theorem evS_appP {i k : Nat} {e : E} {ts : List T} {ds : List D} {x : Val} {r1 : Env} (hp : e.pu = true) (h0 : r[i]? = some (some (.nt ts))) (h1 : ts[k]? = some (.ow (.lst ds))) (h2 : ev e r = .ok x r1) (h3 : (useE false x r1)[i]? = some (some (.nt ts))) (hl : ds.length < sizeLine) :
    evS (.appP i k e) r = .nx ((useE false x r1).set i (some (.nt (ts.set k (.ow (.lst (ds ++ [x.toD]))))))) := by
  simp only [evS, hp, h0, h1, h2, h3, hl, if_true]
@[simp] theorem WP_ife {c : E} {a b : S} {K : Ks} {tg : Tag K} : WPt (evS (.ife c a b) r) K tg = oT (ev c r).tru False (fun q => if q.1 = true then WPt (evS a q.2) K ⟨⟩ else WPt (evS b q.2) K ⟨⟩) ⟨⟩ := by
  simp only [evS]
  cases (ev c r).tru with
  | none => rfl
  | some q =>
    obtain ⟨k, r1⟩ := q
    cases k <;> rfl
@[simp] theorem evS_expr {e : E} : evS (.expr e) r = bT (ev e r) .stuck (fun _ r => .nx r) ⟨⟩ := by simp only [evS]; cases ev e r <;> rfl
@[simp] theorem evS_asg {tg : Tg} {e : E} : evS (.asg tg e) r = bT (ev e r) .stuck (fun x r => oT (asgE tg x r) .stuck (fun r => .nx r) ⟨⟩) ⟨⟩ := by
  simp only [evS]
  cases ev e r with
  | stuck => rfl
  | ok x r =>
    simp only [bT_ok]
    cases asgE tg x r <;> rfl
@[simp] theorem asg_name {i : Nat} {t : T} : asgE (.name i) (.v t) r = match r[i]? with
    | some _ => some (r.set i (some t))
    | none => none := by simp only [asgE] <;> rfl
@[simp] theorem asg_nameb {i j : Nat} {t : T} : asgE (.name i) (.b j t) r = some ((frz j r).set i (some (.fr t.toD))) := by simp [asgE, Tg.bind]
@[simp] theorem asg_tup {ts : List Tg} {x : Val} : asgE (.tup ts) x r = Tg.bind (.tup ts) x.toD (useE false x r) := by simp only [asgE]
@[simp] theorem evS_ret {e : E} : evS (.ret e) r = bT (ev e r) .stuck (fun x r => match x with
    | .v t => .rt t r
    | .b i t => .rt (.fr t.toD) (frz i r)) ⟨⟩ := by
  simp only [evS]
  cases ev e r with
  | stuck => rfl
  | ok x r => cases x <;> rfl
@[simp] theorem evS_retv {i : Nat} : evS (.retv i) r = match r[i]? with
    | some (some t) => .rt t (r.set i none)
    | _ => .stuck := by simp only [evS] <;> rfl
@[simp] theorem evS_retN : evS .retN r = .rt (.fr .non) r := by simp only [evS]
@[simp] theorem evS_pass : evS .pass r = .nx r := by simp only [evS]
@[simp] theorem evS_brk : evS .brk r = .bk r := by simp only [evS]
@[simp] theorem evS_cont : evS .cont r = .ct r := by simp only [evS]
theorem evS_aug {i : Nat} {o : Bop} {e : E} : evS (.aug i o e) r = match r[i]? with
    | some (some (.fr (.int a))) => (match ev e r with
      | .ok x r => (match o, x.toD with
        | .add, .int b => .nx ((useE false x r).set i (some (.fr (.int (a + b)))))
        | .sub, .int b => .nx ((useE false x r).set i (some (.fr (.int (a - b)))))
        | _, _ => .stuck)
      | .stuck => .stuck)
    | _ => .stuck := by simp only [evS] <;> rfl
theorem evS_setf {i : Nat} {f : Nat → Option Nat} {e : E} : evS (.setf i f e) r = match r[i]? with
    | some (some _) => (match ev e r with
      | .ok x r => (match (useE false x r)[i]? with
        | some (some (.ow (.obj c ds))) => (match f c with
          | some k => if k < ds.length then .nx ((useE false x r).set i (some (.ow (.obj c (ds.set k x.toD)))))
              else if k = ds.length then .nx ((useE false x r).set i (some (.ow (.obj c (ds ++ [x.toD]))))) else .stuck
          | none => .stuck)
        | _ => .stuck)
      | .stuck => .stuck)
    | _ => .stuck := by simp only [evS] <;> rfl
theorem evS_updd {i : Nat} {e : E} : evS (.updd i e) r = match r[i]? with
    | some (some (.ow (.dK _ _))) => (match ev e r with
      | .ok x r => (match (useE false x r)[i]?, x.toD with
        | some (some (.ow (.dK ks ds))), .dK ls es => if ks.length + ls.length ≤ sizeLine ∧ (ks ++ ls).Nodup ∧ ks.length = ds.length then .nx ((useE false x r).set i (some (.ow (.dK (ks ++ ls) (ds ++ es))))) else .stuck
        | _, _ => .stuck)
      | .stuck => .stuck)
    | _ => .stuck := by simp only [evS] <;> rfl
theorem evS_seti {i : Nat} {k e : E} : evS (.seti i k e) r = match r[i]? with
    | some (some _) => (match ev e r with
      | .ok x r => (match ev k (useE false x r) with
        | .ok y r => (match (useE false y r)[i]? with
          | some (some (.ow d)) => (match setD d y.toD x.toD with
            | some d => .nx ((useE false y r).set i (some (.ow d)))
            | none => .stuck)
          | _ => .stuck)
        | .stuck => .stuck)
      | .stuck => .stuck)
    | _ => .stuck := by simp only [evS] <;> rfl
theorem evS_app {i : Nat} {e : E} : evS (.app i e) r = match r[i]? with
    | some (some (.ow (.lst _))) => (match ev e r with
      | .ok x r => (match (useE false x r)[i]? with
        | some (some (.ow (.lst ds))) => if ds.length < sizeLine then .nx ((useE false x r).set i (some (.ow (.lst (ds ++ [x.toD]))))) else .stuck
        | _ => .stuck)
      | .stuck => .stuck)
    | _ => .stuck := by simp only [evS] <;> rfl
/-- a loop by its invariant -/
theorem WP_for {tg : Tg} {it : It} {b : S} {ds : List D} {hid : Option (Nat × T)} {r1 : Env} (I : Nat → Env → Prop) (h1 : evi it r = .ok ds hid r1) (h0 : I 0 (hideE hid r1)) (hf : freeE hid (tg.slots ++ b.asgs) = true)
    (step : ∀ i d r, ds[i]? = some d → I i r → ∃ r1, tg.bind d r = some r1 ∧ WP (evS b r1) (I (i + 1)) (fun r => N (showE hid r)) (I (i + 1)) P) (he : ∀ r, I ds.length r → N (showE hid r)) : WP (evS (.for tg it b) r) N B Cn P := by
  have main : ∀ (l : List D) (n : Nat) (r : Env), (∀ i d, l[i]? = some d → ds[n + i]? = some d) → n + l.length = ds.length → I n r →
      WP (forL (fun r => evS b r) tg l r) (fun r => N (showE hid r)) (fun _ => False) (fun _ => False) P := by
    intro l
    induction l with
    | nil =>
      intro n r _ hn hI
      simp only [forL]
      show N (showE hid r)
      have : n = ds.length := by simpa using hn
      rw [this] at hI
      exact he r hI
    | cons d l ih =>
      intro n r hl hn hI
      obtain ⟨r1, h1, h2⟩ := step n d r (by simpa using hl 0 d rfl) hI
      have go : ∀ r2, I (n + 1) r2 → WP (forL (fun r => evS b r) tg l r2) (fun r => N (showE hid r)) (fun _ => False) (fun _ => False) P := fun r2 hI2 =>
        ih (n + 1) r2 (fun i e hi => by rw [show n + 1 + i = n + (i + 1) by omega]; exact hl (i + 1) e (by simpa using hi)) (by rw [← hn, List.length_cons]; omega) hI2
      simp only [forL, h1]
      cases hb : evS b r1 with
      | nx r2 => rw [hb] at h2; exact go r2 h2
      | ct r2 => rw [hb] at h2; exact go r2 h2
      | bk r2 => rw [hb] at h2; exact h2
      | rt t r2 => rw [hb] at h2; exact h2
      | stuck => rw [hb] at h2; exact h2
  have := main ds 0 (hideE hid r1) (fun i d h => by simpa using h) (by simp) h0
  simp only [evS, h1]
  cases hfl : forL (fun r => evS b r) tg ds (hideE hid r1) with
  | nx r2 =>
    rw [hfl] at this
    simp only [hf]
    exact this
  | ct r2 => rw [hfl] at this; exact this.elim
  | bk r2 => rw [hfl] at this; exact this.elim
  | rt t r2 => rw [hfl] at this; exact this
  | stuck => rw [hfl] at this; exact this
/-- a while by its invariant and measure -/
theorem WP_whl {n : Nat} {c : E} {b : S} (I : Nat → Env → Prop) {m : Nat} (hm : m < n) (h0 : I m r)
    (step : ∀ m r, I m r → match (ev c r).tru with
      | some (k, r1) => if k = true then WP (evS b r1) (fun r => ∃ m', m' < m ∧ I m' r) N (fun r => ∃ m', m' < m ∧ I m' r) P else N r1
      | none => False) : WP (evS (.whl n c b) r) N B Cn P := by
  have main : ∀ (n m : Nat) (r : Env), m < n → I m r → WP (whlL (fun r => (ev c r).tru) (fun r => evS b r) n r) N (fun _ => False) (fun _ => False) P := by
    intro n
    induction n with
    | zero => intro m r h; omega
    | succ n ih =>
      intro m r hm hI
      have s := step m r hI
      simp only [whlL]
      cases ht : (ev c r).tru with
      | none => rw [ht] at s; exact s.elim
      | some q =>
        obtain ⟨k, r1⟩ := q
        rw [ht] at s
        cases k with
        | false => exact s
        | true =>
          simp only [if_true] at s
          have go : ∀ r2, (∃ m', m' < m ∧ I m' r2) → WP (whlL (fun r => (ev c r).tru) (fun r => evS b r) n r2) N (fun _ => False) (fun _ => False) P := fun r2 ⟨m', h1, h2⟩ => ih m' r2 (by omega) h2
          simp only
          cases hb : evS b r1 with
          | nx r2 => rw [hb] at s; exact go r2 s
          | ct r2 => rw [hb] at s; exact go r2 s
          | bk r2 => rw [hb] at s; exact s
          | rt t r2 => rw [hb] at s; exact s
          | stuck => rw [hb] at s; exact s
  have := main n m r hm h0
  simp only [evS]
  cases hfl : whlL (fun r => (ev c r).tru) (fun r => evS b r) n r with
  | nx r2 => rw [hfl] at this; exact this
  | ct r2 => rw [hfl] at this; exact this.elim
  | bk r2 => rw [hfl] at this; exact this.elim
  | rt t r2 => rw [hfl] at this; exact this
  | stuck => rw [hfl] at this; exact this
end
/-- a def's run, by its body -/
theorem run_by {n : Nat} {io : List Bool} {b : S} {ts : List T} {Q : T → Env → Prop} (hl : ts.length = io.length) (h : WP (evS b (ts.map some ++ List.replicate (n - io.length) none)) (fun r => Q (.fr .non) (r.take io.length)) (fun _ => False) (fun _ => False) fun t r => Q t (r.take io.length)) :
    ∃ t rp, (mkFn n io b).run ts = some (t, rp) ∧ Q t rp := by
  simp only [mkFn]
  rw [if_pos hl]
  cases he : evS b (ts.map some ++ List.replicate (n - io.length) none) with
  | nx r => rw [he] at h; exact ⟨_, _, rfl, h⟩
  | rt t r => rw [he] at h; exact ⟨_, _, rfl, h⟩
  | bk r => rw [he] at h; exact h.elim
  | ct r => rw [he] at h; exact h.elim
  | stuck => rw [he] at h; exact h.elim
theorem ev_comp {e : E} {tg : Tg} {it : It} {cd : Oe} {r r0 r1 : Env} {ds out : List D} {hid : Option (Nat × T)} (h1 : evi it r = .ok ds hid r0) (hs : stillE (hideE hid r0) tg.slots = true)
    (h2 : compL (fun r => evc cd r) (fun r => ev e r) tg ds (wipeE tg.slots (hideE hid r0)) [] = .ok out r1) : ev (.comp e tg it cd) r = .ok (.v (.ow (.lst out))) (showE hid (backE (hideE hid r0) tg.slots r1)) := by
  simp only [ev, h1, hs, if_true, h2]
end FJ

namespace FL
open PySem L2 FJ
def top (i : Nat) : Stmt := PySem.Challenge.pw_farjump_k22_cells_read_back.main.body.getD i (.Pass ⟨0, 0, 0, 0⟩)
def CN : List Str := []
def CF : List (List Str) := []
def flT (m : Str) (c : Nat) : Option Nat := slotOf m (CF.getD c [])
/-! ### two_cells -/
abbrev s_two_cells : Stmt := top 9
def b_two_cells : S :=
  (.ret (.lst (.cons (.bin .fdiv (.var 0) (.cst (.int 256))) (.cons (.bin .mod (.var 0) (.cst (.int 256))) .nil))))
def F_two_cells : Fn := mkFn 1 [false] b_two_cells
@[simp] theorem io_two_cells : F_two_cells.io = [false] := rfl
def t_two_cells : List (Str × GI) := []
def m_two_cells : MTab := []
def c_two_cells : Cc := ⟨["number"], defScope s_two_cells, fun _ => true, (fun x => t_two_cells.lookup x), 1, [], [], flT, msOf m_two_cells, []⟩
theorem k_two_cells : css 4194304 c_two_cells (defBody s_two_cells) = some b_two_cells := by kernel_rfl
theorem sc_two_cells : FnScope c_two_cells.N ["number"] c_two_cells.sc := ⟨rfl, rfl, rfl, by decide +kernel, rfl, by decide +kernel, by decide +kernel⟩
/-! ### four_cells -/
abbrev s_four_cells : Stmt := top 10
def b_four_cells : S :=
  (.seq (.asg (.name 0) (.bin .mod (.var 0) (.cst (.int 4294967296))))
  (.ret (.bin .add (.call F_two_cells (.ci (.bin .fdiv (.var 0) (.cst (.int 65536))) .nil)) (.call F_two_cells (.ci (.bin .mod (.var 0) (.cst (.int 65536))) .nil)))))
def F_four_cells : Fn := mkFn 1 [false] b_four_cells
@[simp] theorem io_four_cells : F_four_cells.io = [false] := rfl
def t_four_cells : List (Str × GI) := [("two_cells", .fn F_two_cells), ("PLACES", .con (.int 65536)), ("NUMBERS", .con (.int 4294967296))]
def m_four_cells : MTab := []
def c_four_cells : Cc := ⟨["number"], defScope s_four_cells, fun _ => true, (fun x => t_four_cells.lookup x), 1, [], [], flT, msOf m_four_cells, []⟩
theorem k_four_cells : css 4194304 c_four_cells (defBody s_four_cells) = some b_four_cells := by kernel_rfl
theorem sc_four_cells : FnScope c_four_cells.N ["number"] c_four_cells.sc := ⟨rfl, rfl, rfl, by decide +kernel, rfl, by decide +kernel, by decide +kernel⟩
/-! ### first_cell -/
abbrev s_first_cell : Stmt := top 11
def b_first_cell : S :=
  (.seq (.asg (.name 2) (.idx (.var 0) (.cst (.int 0))))
  (.seq (.asg (.name 3) (.idx (.cst (.tab ["set", "add", "take", "say", "ask", "jump", "call", "jumpif", "back", "stop", "jumpby", "load", "alike"] [.int 16, .int 32, .int 48, .int 64, .int 68, .int 80, .int 82, .int 84, .int 98, .int 99, .int 100, .int 112, .int 144] [])) (.var 2)))
  (.seq (.asg (.name 4) (.mt .get (.cst (.tab ["set", "add", "take", "say", "ask", "jumpif", "jumpby", "load", "alike"] [.int 1, .int 2, .int 2, .int 1, .int 1, .int 1, .int 1, .int 2, .int 1] ["jump", "call", "back", "stop"])) (.cons (.var 2) (.cons (.cst (.int 0)) .nil))))
  (.seq (.ife (.cmp .eq (.var 4) (.cst (.int 1)))
  (.aug 3 .add (.idx (.var 0) (.cst (.int 1))))
  .pass)
  (.seq (.ife (.cmp .eq (.var 4) (.cst (.int 2)))
  (.aug 3 .add (.bin .add (.bin .mul (.cst (.int 4)) (.idx (.var 0) (.cst (.int 1)))) (.idx (.var 0) (.cst (.int 2)))))
  .pass)
  (.seq (.ife (.cmp .isn (.var 1) (.cst (.bl false)))
  (.aug 3 .add (.idx (.cst (.tab ["jump", "call", "jumpif", "jumpby", "load"] [.int 1, .int 1, .int 4, .int 4, .int 16] ["set", "add", "take", "say", "ask", "back", "stop", "alike"])) (.var 2)))
  .pass)
  (.retv 3)))))))
def F_first_cell : Fn := mkFn 5 [false, false] b_first_cell
@[simp] theorem io_first_cell : F_first_cell.io = [false, false] := rfl
def t_first_cell : List (Str × GI) := [("MORE", .con (.tab ["jump", "call", "jumpif", "jumpby", "load"] [.int 1, .int 1, .int 4, .int 4, .int 16] ["set", "add", "take", "say", "ask", "back", "stop", "alike"])), ("BOXES", .con (.tab ["set", "add", "take", "say", "ask", "jumpif", "jumpby", "load", "alike"] [.int 1, .int 2, .int 2, .int 1, .int 1, .int 1, .int 1, .int 2, .int 1] ["jump", "call", "back", "stop"])), ("FIRST", .con (.tab ["set", "add", "take", "say", "ask", "jump", "call", "jumpif", "back", "stop", "jumpby", "load", "alike"] [.int 16, .int 32, .int 48, .int 64, .int 68, .int 80, .int 82, .int 84, .int 98, .int 99, .int 100, .int 112, .int 144] []))]
def m_first_cell : MTab := []
def c_first_cell : Cc := ⟨["row", "near", "kind", "found", "boxes"], defScope s_first_cell, fun _ => true, (fun x => t_first_cell.lookup x), 2, [], [], flT, msOf m_first_cell, []⟩
theorem k_first_cell : css 4194304 c_first_cell (defBody s_first_cell) = some b_first_cell := by kernel_rfl
theorem sc_first_cell : FnScope c_first_cell.N ["row", "near"] c_first_cell.sc := ⟨rfl, rfl, rfl, by decide +kernel, rfl, by decide +kernel, by decide +kernel⟩
/-! ### cells_of -/
abbrev s_cells_of : Stmt := top 12
def b_cells_of : S :=
  (.seq (.asg (.name 3) (.idx (.var 0) (.cst (.int 0))))
  (.seq (.ife (.cmp .eq (.var 3) (.cst (.str "numbers")))
  (.ret (.bin .add (.call F_two_cells (.ci (.bi .len (.cons (.idx (.var 0) (.cst (.int 1))) .nil)) .nil)) (.bi .sum2 (.cons (.comp (.call F_four_cells (.ci (.var 4) .nil)) (.name 4) (.lst (.idx (.var 0) (.cst (.int 1)))) .no) (.cons (.lst .nil) .nil)))))
  .pass)
  (.seq (.ife (.cmp .eq (.var 3) (.cst (.str "table")))
  (.ret (.bin .add (.call F_two_cells (.ci (.bi .len (.cons (.idx (.var 0) (.cst (.int 1))) .nil)) .nil)) (.bi .sum2 (.cons (.comp (.call F_two_cells (.ci (.var 5) .nil)) (.name 5) (.lst (.idx (.var 0) (.cst (.int 1)))) .no) (.cons (.lst .nil) .nil)))))
  .pass)
  (.seq (.asg (.name 6) (.lst (.cons (.call F_first_cell (.ci (.var 0) (.ci (.var 2) .nil))) .nil)))
  (.seq (.ife (.cmp .eq (.var 3) (.cst (.str "set")))
  (.ret (.bin .add (.var 6) (.call F_four_cells (.ci (.idx (.var 0) (.cst (.int 2))) .nil))))
  .pass)
  (.seq (.ife (.cmp .eq (.var 3) (.cst (.str "alike")))
  (.ret (.bin .add (.bin .add (.var 6) (.call F_two_cells (.ci (.idx (.var 0) (.cst (.int 2))) .nil))) (.call F_two_cells (.ci (.idx (.var 0) (.cst (.int 3))) .nil))))
  .pass)
  (.seq (.ife (.cmp .isn (.var 2) (.cst (.bl true)))
  (.ret (.bin .add (.var 6) (.lst (.cons (.bin .mod (.bin .sub (.bin .sub (.idx (.var 0) (.neg (.cst (.int 1)))) (.var 1)) (.cst (.int 2))) (.cst (.int 256))) .nil))))
  .pass)
  (.seq (.ife (.cmp .isn (.var 2) (.cst (.bl false)))
  (.ret (.bin .add (.var 6) (.call F_two_cells (.ci (.idx (.var 0) (.neg (.cst (.int 1)))) .nil))))
  .pass)
  (.retv 6)))))))))
def F_cells_of : Fn := mkFn 7 [false, false, false] b_cells_of
@[simp] theorem io_cells_of : F_cells_of.io = [false, false, false] := rfl
def t_cells_of : List (Str × GI) := [("two_cells", .fn F_two_cells), ("four_cells", .fn F_four_cells), ("first_cell", .fn F_first_cell), ("len", .blt), ("sum", .blt)]
def m_cells_of : MTab := []
def c_cells_of : Cc := ⟨["row", "at", "near", "kind", "number", "place", "found"], defScope s_cells_of, fun _ => true, (fun x => t_cells_of.lookup x), 3, [], [], flT, msOf m_cells_of, []⟩
theorem k_cells_of : css 4194304 c_cells_of (defBody s_cells_of) = some b_cells_of := by kernel_rfl
theorem sc_cells_of : FnScope c_cells_of.N ["row", "at", "near"] c_cells_of.sc := ⟨rfl, rfl, rfl, by decide +kernel, rfl, by decide +kernel, by decide +kernel⟩
/-! ### wide -/
abbrev s_wide : Stmt := top 13
def b_wide : S :=
  (.seq (.ife (.cmp .gt (.bin .add (.var 1) (.var 2)) (.bi .len (.cons (.var 0) .nil)))
  .raise
  .pass)
  (.seq (.asg (.name 3) (.cst (.int 0)))
  (.seq (.for (.name 4) (.lst (.sli (.var 0) (.so (.var 1)) (.so (.bin .add (.var 1) (.var 2)))))
  (.asg (.name 3) (.bin .add (.bin .mul (.cst (.int 256)) (.var 3)) (.var 4))))
  (.retv 3))))
def F_wide : Fn := mkFn 5 [false, false, false] b_wide
@[simp] theorem io_wide : F_wide.io = [false, false, false] := rfl
def t_wide : List (Str × GI) := [("len", .blt)]
def m_wide : MTab := []
def c_wide : Cc := ⟨["cells", "at", "many", "found", "cell"], defScope s_wide, fun _ => true, (fun x => t_wide.lookup x), 3, [], [], flT, msOf m_wide, []⟩
theorem k_wide : css 4194304 c_wide (defBody s_wide) = some b_wide := by kernel_rfl
theorem sc_wide : FnScope c_wide.N ["cells", "at", "many"] c_wide.sc := ⟨rfl, rfl, rfl, by decide +kernel, rfl, by decide +kernel, by decide +kernel⟩
/-! ### signed -/
abbrev s_signed : Stmt := top 14
def b_signed : S :=
  (.seq (.ife (.cmp .ge (.bin .mul (.var 0) (.cst (.int 2))) (.var 1))
  (.ret (.bin .sub (.var 0) (.var 1)))
  .pass)
  (.ret (.var 0)))
def F_signed : Fn := mkFn 2 [false, false] b_signed
@[simp] theorem io_signed : F_signed.io = [false, false] := rfl
def t_signed : List (Str × GI) := []
def m_signed : MTab := []
def c_signed : Cc := ⟨["number", "bound"], defScope s_signed, fun _ => true, (fun x => t_signed.lookup x), 2, [], [], flT, msOf m_signed, []⟩
theorem k_signed : css 4194304 c_signed (defBody s_signed) = some b_signed := by kernel_rfl
theorem sc_signed : FnScope c_signed.N ["number", "bound"] c_signed.sc := ⟨rfl, rfl, rfl, by decide +kernel, rfl, by decide +kernel, by decide +kernel⟩
/-! ### boxes_of -/
abbrev s_boxes_of : Stmt := top 16
def b_boxes_of : S :=
  (.seq (.asg (.name 2) (.mt .get (.cst (.tab ["set", "add", "take", "say", "ask", "jumpif", "jumpby", "load", "alike"] [.int 1, .int 2, .int 2, .int 1, .int 1, .int 1, .int 1, .int 2, .int 1] ["jump", "call", "back", "stop"])) (.cons (.var 0) (.cons (.cst (.int 0)) .nil))))
  (.seq (.ife (.cmp .eq (.var 2) (.cst (.int 2)))
  (.ret (.bi .divmod (.cons (.var 1) (.cons (.cst (.int 4)) .nil))))
  .pass)
  (.ret (.sli (.tup (.cons (.var 1) .nil)) .no (.so (.var 2))))))
def F_boxes_of : Fn := mkFn 3 [false, false] b_boxes_of
@[simp] theorem io_boxes_of : F_boxes_of.io = [false, false] := rfl
def t_boxes_of : List (Str × GI) := [("divmod", .blt), ("BOXES", .con (.tab ["set", "add", "take", "say", "ask", "jumpif", "jumpby", "load", "alike"] [.int 1, .int 2, .int 2, .int 1, .int 1, .int 1, .int 1, .int 2, .int 1] ["jump", "call", "back", "stop"]))]
def m_boxes_of : MTab := []
def c_boxes_of : Cc := ⟨["kind", "number", "many"], defScope s_boxes_of, fun _ => true, (fun x => t_boxes_of.lookup x), 2, [], [], flT, msOf m_boxes_of, []⟩
theorem k_boxes_of : css 4194304 c_boxes_of (defBody s_boxes_of) = some b_boxes_of := by kernel_rfl
theorem sc_boxes_of : FnScope c_boxes_of.N ["kind", "number"] c_boxes_of.sc := ⟨rfl, rfl, rfl, by decide +kernel, rfl, by decide +kernel, by decide +kernel⟩
/-! ### kind_of -/
abbrev s_kind_of : Stmt := top 15
def b_kind_of : S :=
  (.seq (.for (.tup [(.name 1), (.name 2)]) (.itm (.cst (.tab ["set", "add", "take", "say", "ask", "jump", "call", "jumpif", "back", "stop", "jumpby", "load", "alike"] [.int 16, .int 32, .int 48, .int 64, .int 68, .int 80, .int 82, .int 84, .int 98, .int 99, .int 100, .int 112, .int 144] [])))
  (.seq (.asg (.name 3) (.idx (.lst (.cons (.cst (.int 1)) (.cons (.cst (.int 4)) (.cons (.cst (.int 16)) .nil)))) (.mt .get (.cst (.tab ["set", "add", "take", "say", "ask", "jumpif", "jumpby", "load", "alike"] [.int 1, .int 2, .int 2, .int 1, .int 1, .int 1, .int 1, .int 2, .int 1] ["jump", "call", "back", "stop"])) (.cons (.var 1) (.cons (.cst (.int 0)) .nil)))))
  (.for (.name 4) (.lst (.ite (.cmp .inn (.var 1) (.cst (.tab ["jump", "call", "jumpif", "jumpby", "load"] [.int 1, .int 1, .int 4, .int 4, .int 16] ["set", "add", "take", "say", "ask", "back", "stop", "alike"]))) (.lst (.cons (.cst (.bl true)) (.cons (.cst (.bl false)) .nil))) (.lst (.cons (.cst .non) .nil))))
  (.seq (.asg (.name 5) (.var 2))
  (.seq (.ife (.cmp .isn (.var 4) (.cst (.bl false)))
  (.aug 5 .add (.idx (.cst (.tab ["jump", "call", "jumpif", "jumpby", "load"] [.int 1, .int 1, .int 4, .int 4, .int 16] ["set", "add", "take", "say", "ask", "back", "stop", "alike"])) (.var 1)))
  .pass)
  (.ife (.chain .le .lt (.var 5) (.var 0) (.bin .add (.var 5) (.var 3)))
  (.ret (.tup (.cons (.var 1) (.cons (.var 4) (.cons (.call F_boxes_of (.ci (.var 1) (.ci (.bin .sub (.var 0) (.var 5)) .nil))) .nil)))))
  .pass))))))
  (.ret (.cst .non)))
def F_kind_of : Fn := mkFn 6 [false] b_kind_of
@[simp] theorem io_kind_of : F_kind_of.io = [false] := rfl
def t_kind_of : List (Str × GI) := [("FIRST", .con (.tab ["set", "add", "take", "say", "ask", "jump", "call", "jumpif", "back", "stop", "jumpby", "load", "alike"] [.int 16, .int 32, .int 48, .int 64, .int 68, .int 80, .int 82, .int 84, .int 98, .int 99, .int 100, .int 112, .int 144] [])), ("MORE", .con (.tab ["jump", "call", "jumpif", "jumpby", "load"] [.int 1, .int 1, .int 4, .int 4, .int 16] ["set", "add", "take", "say", "ask", "back", "stop", "alike"])), ("boxes_of", .fn F_boxes_of), ("BOXES", .con (.tab ["set", "add", "take", "say", "ask", "jumpif", "jumpby", "load", "alike"] [.int 1, .int 2, .int 2, .int 1, .int 1, .int 1, .int 1, .int 2, .int 1] ["jump", "call", "back", "stop"]))]
def m_kind_of : MTab := []
def c_kind_of : Cc := ⟨["cell", "kind", "first", "many", "near", "start"], defScope s_kind_of, fun _ => true, (fun x => t_kind_of.lookup x), 1, [], [], flT, msOf m_kind_of, []⟩
theorem k_kind_of : css 4194304 c_kind_of (defBody s_kind_of) = some b_kind_of := by kernel_rfl
theorem sc_kind_of : FnScope c_kind_of.N ["cell"] c_kind_of.sc := ⟨rfl, rfl, rfl, by decide +kernel, rfl, by decide +kernel, by decide +kernel⟩
/-! ### read_rest -/
abbrev s_read_rest : Stmt := top 17
def b_read_rest : S :=
  (.seq (.ife (.cmp .eq (.var 2) (.cst (.str "set")))
  (.ret (.tup (.cons (.tup (.cons (.call F_signed (.ci (.call F_wide (.ci (.var 0) (.ci (.var 1) (.ci (.cst (.int 4)) .nil)))) (.ci (.cst (.int 4294967296)) .nil))) .nil)) (.cons (.cst (.int 4)) .nil))))
  .pass)
  (.seq (.ife (.cmp .eq (.var 2) (.cst (.str "alike")))
  (.ret (.tup (.cons (.tup (.cons (.call F_wide (.ci (.var 0) (.ci (.var 1) (.ci (.cst (.int 2)) .nil)))) (.cons (.call F_wide (.ci (.var 0) (.ci (.bin .add (.var 1) (.cst (.int 2))) (.ci (.cst (.int 2)) .nil)))) .nil))) (.cons (.cst (.int 4)) .nil))))
  .pass)
  (.seq (.ife (.cmp .isn (.var 3) (.cst (.bl true)))
  (.seq (.asg (.name 4) (.bin .add (.bin .add (.var 1) (.cst (.int 1))) (.call F_signed (.ci (.call F_wide (.ci (.var 0) (.ci (.var 1) (.ci (.cst (.int 1)) .nil)))) (.ci (.cst (.int 256)) .nil)))))
  (.seq (.ife (.not (.chain .le .lt (.cst (.int 0)) (.var 4) (.cst (.int 65536))))
  .raise
  .pass)
  (.ret (.tup (.cons (.tup (.cons (.var 4) .nil)) (.cons (.cst (.int 1)) .nil))))))
  .pass)
  (.seq (.ife (.cmp .isn (.var 3) (.cst (.bl false)))
  (.ret (.tup (.cons (.tup (.cons (.call F_wide (.ci (.var 0) (.ci (.var 1) (.ci (.cst (.int 2)) .nil)))) .nil)) (.cons (.cst (.int 2)) .nil))))
  .pass)
  (.ret (.tup (.cons (.tup .nil) (.cons (.cst (.int 0)) .nil))))))))
def F_read_rest : Fn := mkFn 5 [false, false, false, false] b_read_rest
@[simp] theorem io_read_rest : F_read_rest.io = [false, false, false, false] := rfl
def t_read_rest : List (Str × GI) := [("wide", .fn F_wide), ("PLACES", .con (.int 65536)), ("signed", .fn F_signed), ("NUMBERS", .con (.int 4294967296))]
def m_read_rest : MTab := []
def c_read_rest : Cc := ⟨["cells", "at", "kind", "near", "place"], defScope s_read_rest, fun _ => true, (fun x => t_read_rest.lookup x), 4, [], [], flT, msOf m_read_rest, []⟩
theorem k_read_rest : css 4194304 c_read_rest (defBody s_read_rest) = some b_read_rest := by kernel_rfl
theorem sc_read_rest : FnScope c_read_rest.N ["cells", "at", "kind", "near"] c_read_rest.sc := ⟨rfl, rfl, rfl, by decide +kernel, rfl, by decide +kernel, by decide +kernel⟩
/-! ### within -/
abbrev s_within : Stmt := top 18
def b_within : S :=
  (.ife (.not (.chain .le .lt (.cst (.int 0)) (.var 1) (.bi .len (.cons (.var 0) .nil))))
  .raise
  .pass)
def F_within : Fn := mkFn 2 [false, false] b_within
@[simp] theorem io_within : F_within.io = [false, false] := rfl
def t_within : List (Str × GI) := [("len", .blt)]
def m_within : MTab := []
def c_within : Cc := ⟨["cells", "at"], defScope s_within, fun _ => true, (fun x => t_within.lookup x), 2, [], [], flT, msOf m_within, []⟩
theorem k_within : css 4194304 c_within (defBody s_within) = some b_within := by kernel_rfl
theorem sc_within : FnScope c_within.N ["cells", "at"] c_within.sc := ⟨rfl, rfl, rfl, by decide +kernel, rfl, by decide +kernel, by decide +kernel⟩
/-! ### read_code -/
abbrev s_read_code : Stmt := top 19
def b_read_code : S :=
  (.seq (.expr (.call F_within (.ci (.var 0) (.ci (.var 1) .nil))))
  (.seq (.asg (.name 2) (.call F_kind_of (.ci (.idx (.var 0) (.var 1)) .nil)))
  (.seq (.ife (.cmp .isn (.var 2) (.cst .non))
  .raise
  .pass)
  (.seq (.asg (.tup [(.name 3), (.name 4), (.name 5)]) (.var 2))
  (.tryE (.asg (.tup [(.name 6), (.name 7)]) (.call F_read_rest (.ci (.var 0) (.ci (.bin .add (.var 1) (.cst (.int 1))) (.ci (.var 3) (.ci (.var 4) .nil))))))
  (.ret (.tup (.cons (.bin .add (.bin .add (.tup (.cons (.var 3) .nil)) (.var 5)) (.var 6)) (.cons (.var 4) (.cons (.bin .add (.bin .add (.var 1) (.cst (.int 1))) (.var 7)) .nil))))))))))
def F_read_code : Fn := mkFn 8 [false, false] b_read_code
@[simp] theorem io_read_code : F_read_code.io = [false, false] := rfl
def t_read_code : List (Str × GI) := [("read_rest", .fn F_read_rest), ("kind_of", .fn F_kind_of), ("within", .fn F_within)]
def m_read_code : MTab := []
def c_read_code : Cc := ⟨["cells", "at", "found", "kind", "near", "boxes", "rest", "many"], defScope s_read_code, fun _ => true, (fun x => t_read_code.lookup x), 2, [], [], flT, msOf m_read_code, []⟩
theorem k_read_code : css 4194304 c_read_code (defBody s_read_code) = some b_read_code := by kernel_rfl
theorem sc_read_code : FnScope c_read_code.N ["cells", "at"] c_read_code.sc := ⟨rfl, rfl, rfl, by decide +kernel, rfl, by decide +kernel, by decide +kernel⟩
/-! ### read_list -/
abbrev s_read_list : Stmt := top 20
def b_read_list : S :=
  (.seq (.expr (.call F_within (.ci (.var 0) (.ci (.var 1) .nil))))
  (.tryE (.seq (.asg (.name 3) (.call F_wide (.ci (.var 0) (.ci (.var 1) (.ci (.cst (.int 2)) .nil)))))
  (.asg (.name 4) (.comp (.call F_wide (.ci (.var 0) (.ci (.bin .add (.bin .add (.var 1) (.cst (.int 2))) (.bin .mul (.var 2) (.var 5))) (.ci (.var 2) .nil)))) (.name 5) (.rng (.cons (.var 3) .nil)) .no)))
  (.ret (.tupo (.cx 4 (.ct (.bin .add (.bin .add (.var 1) (.cst (.int 2))) (.bin .mul (.var 2) (.var 3))) .nil))))))
def F_read_list : Fn := mkFn 6 [false, false, false] b_read_list
@[simp] theorem io_read_list : F_read_list.io = [false, false, false] := rfl
def t_read_list : List (Str × GI) := [("wide", .fn F_wide), ("range", .blt), ("within", .fn F_within)]
def m_read_list : MTab := []
def c_read_list : Cc := ⟨["cells", "at", "size", "many", "found", "k"], defScope s_read_list, fun _ => true, (fun x => t_read_list.lookup x), 3, [(109, 15)], [], flT, msOf m_read_list, []⟩
theorem k_read_list : css 4194304 c_read_list (defBody s_read_list) = some b_read_list := by kernel_rfl
theorem sc_read_list : FnScope c_read_list.N ["cells", "at", "size"] c_read_list.sc := ⟨rfl, rfl, rfl, by decide +kernel, rfl, by decide +kernel, by decide +kernel⟩
/-! ### read_numbers -/
abbrev s_read_numbers : Stmt := top 21
def b_read_numbers : S :=
  (.seq (.asg (.tup [(.name 2), (.name 3)]) (.call F_read_list (.ci (.var 0) (.ci (.var 1) (.ci (.cst (.int 4)) .nil)))))
  (.ret (.tupo (.ct (.comp (.call F_signed (.ci (.var 4) (.ci (.cst (.int 4294967296)) .nil))) (.name 4) (.lst (.var 2)) .no) (.cx 3 .nil)))))
def F_read_numbers : Fn := mkFn 5 [false, false] b_read_numbers
@[simp] theorem io_read_numbers : F_read_numbers.io = [false, false] := rfl
def t_read_numbers : List (Str × GI) := [("signed", .fn F_signed), ("NUMBERS", .con (.int 4294967296)), ("read_list", .fn F_read_list)]
def m_read_numbers : MTab := []
def c_read_numbers : Cc := ⟨["cells", "at", "found", "behind", "number"], defScope s_read_numbers, fun _ => true, (fun x => t_read_numbers.lookup x), 2, [(112, 11)], [], flT, msOf m_read_numbers, []⟩
theorem k_read_numbers : css 4194304 c_read_numbers (defBody s_read_numbers) = some b_read_numbers := by kernel_rfl
theorem sc_read_numbers : FnScope c_read_numbers.N ["cells", "at"] c_read_numbers.sc := ⟨rfl, rfl, rfl, by decide +kernel, rfl, by decide +kernel, by decide +kernel⟩
/-! ### read_table -/
abbrev s_read_table : Stmt := top 22
def b_read_table : S :=
  (.ret (.call F_read_list (.ci (.var 0) (.ci (.var 1) (.ci (.cst (.int 2)) .nil)))))
def F_read_table : Fn := mkFn 2 [false, false] b_read_table
@[simp] theorem io_read_table : F_read_table.io = [false, false] := rfl
def t_read_table : List (Str × GI) := [("read_list", .fn F_read_list)]
def m_read_table : MTab := []
def c_read_table : Cc := ⟨["cells", "at"], defScope s_read_table, fun _ => true, (fun x => t_read_table.lookup x), 2, [], [], flT, msOf m_read_table, []⟩
theorem k_read_table : css 4194304 c_read_table (defBody s_read_table) = some b_read_table := by kernel_rfl
theorem sc_read_table : FnScope c_read_table.N ["cells", "at"] c_read_table.sc := ⟨rfl, rfl, rfl, by decide +kernel, rfl, by decide +kernel, by decide +kernel⟩
/-! ### _law_mixed -/
abbrev s__law_mixed : Stmt := top 25
def b__law_mixed : S :=
  (.seq (.asg (.name 2) (.bin .mod (.bin .mul (.bin .add (.bin .add (.bin .mod (.var 0) (.cst (.int 2147483629))) (.bin .mul (.cst (.int 69621)) (.var 1))) (.cst (.int 1))) (.bin .add (.cst (.int 48271)) (.bin .mul (.cst (.int 2)) (.var 1)))) (.cst (.int 2147483629))))
  (.seq (.asg (.name 2) (.bin .mod (.bin .mul (.var 2) (.bin .add (.bin .fdiv (.var 2) (.cst (.int 1009))) (.cst (.int 69621)))) (.cst (.int 2147483629))))
  (.ret (.bin .mod (.bin .mul (.var 2) (.bin .add (.bin .add (.bin .fdiv (.var 2) (.cst (.int 907))) (.cst (.int 16807))) (.var 1))) (.cst (.int 2147483629))))))
def F__law_mixed : Fn := mkFn 3 [false, false] b__law_mixed
@[simp] theorem io__law_mixed : F__law_mixed.io = [false, false] := rfl
def t__law_mixed : List (Str × GI) := []
def m__law_mixed : MTab := []
def c__law_mixed : Cc := ⟨["_law_draw", "_law_k", "_law_number_here"], defScope s__law_mixed, fun _ => true, (fun x => t__law_mixed.lookup x), 2, [], [], flT, msOf m__law_mixed, []⟩
theorem k__law_mixed : css 4194304 c__law_mixed (defBody s__law_mixed) = some b__law_mixed := by kernel_rfl
theorem sc__law_mixed : FnScope c__law_mixed.N ["_law_draw", "_law_k"] c__law_mixed.sc := ⟨rfl, rfl, rfl, by decide +kernel, rfl, by decide +kernel, by decide +kernel⟩
/-! ### _law_next -/
abbrev s__law_next : Stmt := top 26
def b__law_next : S :=
  (.seq (.ife (.and (.cmp .eq (.idx (.var 0) (.cst (.int 1))) (.cst (.int 0))) (.cmp .gt (.idx (.var 0) (.cst (.int 0))) (.cst (.int 1))))
  (.seq (.asg (.name 2) (.bin .mod (.idx (.var 0) (.cst (.int 0))) (.var 1)))
  (.seq (.seti 0 (.cst (.int 0)) (.bin .fdiv (.idx (.var 0) (.cst (.int 0))) (.var 1)))
  (.retv 2)))
  .pass)
  (.seq (.seti 0 (.cst (.int 2)) (.bin .add (.idx (.var 0) (.cst (.int 2))) (.cst (.int 1))))
  (.ret (.bin .mod (.call F__law_mixed (.ci (.idx (.var 0) (.cst (.int 3))) (.ci (.idx (.var 0) (.cst (.int 2))) .nil))) (.var 1)))))
def F__law_next : Fn := mkFn 3 [true, false] b__law_next
@[simp] theorem io__law_next : F__law_next.io = [true, false] := rfl
def t__law_next : List (Str × GI) := [("_law_mixed", .fn F__law_mixed)]
def m__law_next : MTab := []
def c__law_next : Cc := ⟨["_law_source_here", "_law_many", "_law_found"], defScope s__law_next, fun _ => true, (fun x => t__law_next.lookup x), 2, [], [], flT, msOf m__law_next, []⟩
theorem k__law_next : css 4194304 c__law_next (defBody s__law_next) = some b__law_next := by kernel_rfl
theorem sc__law_next : FnScope c__law_next.N ["_law_source_here", "_law_many"] c__law_next.sc := ⟨rfl, rfl, rfl, by decide +kernel, rfl, by decide +kernel, by decide +kernel⟩
/-! ### _law_source -/
abbrev s__law_source : Stmt := top 27
def b__law_source : S :=
  (.ret (.lst (.cons (.bin .fdiv (.var 0) (.cst (.int 2))) (.cons (.bin .mod (.var 0) (.cst (.int 2))) (.cons (.cst (.int 0)) (.cons (.var 0) .nil))))))
def F__law_source : Fn := mkFn 1 [false] b__law_source
@[simp] theorem io__law_source : F__law_source.io = [false] := rfl
def t__law_source : List (Str × GI) := []
def m__law_source : MTab := []
def c__law_source : Cc := ⟨["_law_draw"], defScope s__law_source, fun _ => true, (fun x => t__law_source.lookup x), 1, [], [], flT, msOf m__law_source, []⟩
theorem k__law_source : css 4194304 c__law_source (defBody s__law_source) = some b__law_source := by kernel_rfl
theorem sc__law_source : FnScope c__law_source.N ["_law_draw"] c__law_source.sc := ⟨rfl, rfl, rfl, by decide +kernel, rfl, by decide +kernel, by decide +kernel⟩
/-! ### _law_number -/
abbrev s__law_number : Stmt := top 28
def b__law_number : S :=
  (.seq (.asg (.name 1) (.call F__law_next (.cx 0 (.ci (.cst (.int 4)) .nil))))
  (.seq (.ife (.cmp .eq (.var 1) (.cst (.int 0)))
  (.ret (.bin .sub (.call F__law_next (.cx 0 (.ci (.cst (.int 600)) .nil))) (.cst (.int 300))))
  .pass)
  (.seq (.ife (.cmp .eq (.var 1) (.cst (.int 1)))
  (.ret (.idx (.lst (.cons (.cst (.int 0)) (.cons (.neg (.cst (.int 1))) (.cons (.cst (.int 2147483647)) (.cons (.neg (.cst (.int 2147483648))) (.cons (.cst (.int 65536)) (.cons (.cst (.int 255)) (.cons (.cst (.int 256)) (.cons (.neg (.cst (.int 256))) .nil))))))))) (.call F__law_next (.cx 0 (.ci (.cst (.int 8)) .nil)))))
  .pass)
  (.ret (.bin .sub (.call F__law_next (.cx 0 (.ci (.cst (.int 4294967296)) .nil))) (.cst (.int 2147483648)))))))
def F__law_number : Fn := mkFn 2 [true] b__law_number
@[simp] theorem io__law_number : F__law_number.io = [true] := rfl
def t__law_number : List (Str × GI) := [("_law_next", .fn F__law_next)]
def m__law_number : MTab := []
def c__law_number : Cc := ⟨["_law_source_here", "_law_way"], defScope s__law_number, fun _ => true, (fun x => t__law_number.lookup x), 1, [], [], flT, msOf m__law_number, []⟩
theorem k__law_number : css 4194304 c__law_number (defBody s__law_number) = some b__law_number := by kernel_rfl
theorem sc__law_number : FnScope c__law_number.N ["_law_source_here"] c__law_number.sc := ⟨rfl, rfl, rfl, by decide +kernel, rfl, by decide +kernel, by decide +kernel⟩
/-! ### _law_place -/
abbrev s__law_place : Stmt := top 29
def b__law_place : S :=
  (.seq (.ife (.cmp .eq (.call F__law_next (.cx 0 (.ci (.cst (.int 3)) .nil))) (.cst (.int 0)))
  (.ret (.idx (.lst (.cons (.cst (.int 0)) (.cons (.cst (.int 1)) (.cons (.cst (.int 255)) (.cons (.cst (.int 256)) (.cons (.cst (.int 65535)) (.cons (.cst (.int 65280)) .nil))))))) (.call F__law_next (.cx 0 (.ci (.cst (.int 6)) .nil)))))
  .pass)
  (.ret (.call F__law_next (.cx 0 (.ci (.cst (.int 65536)) .nil)))))
def F__law_place : Fn := mkFn 1 [true] b__law_place
@[simp] theorem io__law_place : F__law_place.io = [true] := rfl
def t__law_place : List (Str × GI) := [("_law_next", .fn F__law_next)]
def m__law_place : MTab := []
def c__law_place : Cc := ⟨["_law_source_here"], defScope s__law_place, fun _ => true, (fun x => t__law_place.lookup x), 1, [], [], flT, msOf m__law_place, []⟩
theorem k__law_place : css 4194304 c__law_place (defBody s__law_place) = some b__law_place := by kernel_rfl
theorem sc__law_place : FnScope c__law_place.N ["_law_source_here"] c__law_place.sc := ⟨rfl, rfl, rfl, by decide +kernel, rfl, by decide +kernel, by decide +kernel⟩
/-! ### _law_row -/
abbrev s__law_row : Stmt := top 30
def b__law_row : S :=
  (.seq (.asg (.name 2) (.lst (.cons (.cst (.str "set")) (.cons (.cst (.str "add")) (.cons (.cst (.str "take")) (.cons (.cst (.str "say")) (.cons (.cst (.str "ask")) (.cons (.cst (.str "jump")) (.cons (.cst (.str "jumpif")) (.cons (.cst (.str "call")) (.cons (.cst (.str "back")) (.cons (.cst (.str "stop")) (.cons (.cst (.str "load")) (.cons (.cst (.str "jumpby")) (.cons (.cst (.str "alike")) .nil)))))))))))))))
  (.seq (.asg (.name 3) (.idx (.var 2) (.call F__law_next (.cx 0 (.ci (.cst (.int 13)) .nil)))))
  (.seq (.asg (.name 4) (.call F__law_next (.cx 0 (.ci (.cst (.int 4)) .nil))))
  (.seq (.asg (.name 5) (.call F__law_next (.cx 0 (.ci (.cst (.int 4)) .nil))))
  (.seq (.ife (.cmp .eq (.var 3) (.cst (.str "set")))
  (.ret (.tup (.cons (.tup (.cons (.cst (.str "set")) (.cons (.var 4) (.cons (.call F__law_number (.cx 0 .nil)) .nil)))) (.cons (.cst .non) .nil))))
  .pass)
  (.seq (.ife (.cmp .inn (.var 3) (.tup (.cons (.cst (.str "add")) (.cons (.cst (.str "take")) .nil))))
  (.ret (.tup (.cons (.tup (.cons (.var 3) (.cons (.var 4) (.cons (.var 5) .nil)))) (.cons (.cst .non) .nil))))
  .pass)
  (.seq (.ife (.cmp .inn (.var 3) (.tup (.cons (.cst (.str "say")) (.cons (.cst (.str "ask")) .nil))))
  (.ret (.tup (.cons (.tup (.cons (.var 3) (.cons (.var 4) .nil))) (.cons (.cst .non) .nil))))
  .pass)
  (.seq (.ife (.cmp .inn (.var 3) (.tup (.cons (.cst (.str "back")) (.cons (.cst (.str "stop")) .nil))))
  (.ret (.tup (.cons (.tup (.cons (.var 3) .nil)) (.cons (.cst .non) .nil))))
  .pass)
  (.seq (.ife (.cmp .eq (.var 3) (.cst (.str "alike")))
  (.ret (.tup (.cons (.tup (.cons (.cst (.str "alike")) (.cons (.var 4) (.cons (.call F__law_place (.cx 0 .nil)) (.cons (.call F__law_place (.cx 0 .nil)) .nil))))) (.cons (.cst .non) .nil))))
  .pass)
  (.seq (.asg (.name 6) (.cmp .eq (.call F__law_next (.cx 0 (.ci (.cst (.int 2)) .nil))) (.cst (.int 0))))
  (.seq (.asg (.name 7) (.call F__law_place (.cx 0 .nil)))
  (.seq (.ife (.var 6)
  (.seq (.asg (.name 7) (.bin .sub (.bin .add (.bin .add (.var 1) (.cst (.int 2))) (.call F__law_next (.cx 0 (.ci (.cst (.int 256)) .nil)))) (.cst (.int 128))))
  (.ife (.not (.chain .le .lt (.cst (.int 0)) (.var 7) (.cst (.int 65536))))
  (.asg (.name 7) (.var 1))
  .pass))
  .pass)
  (.seq (.asg (.name 8) (.idx (.dct [.inr "jump", .inr "call", .inr "jumpif", .inr "jumpby", .inr "load"] (.cons (.tup .nil) (.cons (.tup .nil) (.cons (.tup (.cons (.var 4) .nil)) (.cons (.tup (.cons (.var 4) .nil)) (.cons (.tup (.cons (.var 4) (.cons (.var 5) .nil))) .nil)))))) (.var 3)))
  (.ret (.tup (.cons (.bin .add (.bin .add (.tup (.cons (.var 3) .nil)) (.var 8)) (.tup (.cons (.var 7) .nil))) (.cons (.var 6) .nil)))))))))))))))))
def F__law_row : Fn := mkFn 9 [true, false] b__law_row
@[simp] theorem io__law_row : F__law_row.io = [true, false] := rfl
def t__law_row : List (Str × GI) := [("_law_next", .fn F__law_next), ("_law_place", .fn F__law_place), ("_law_number", .fn F__law_number)]
def m__law_row : MTab := []
def c__law_row : Cc := ⟨["_law_source_here", "_law_at", "_law_kinds", "_law_kind", "_law_b", "_law_c", "_law_near", "_law_place_here", "_law_boxes"], defScope s__law_row, fun _ => true, (fun x => t__law_row.lookup x), 2, [], [], flT, msOf m__law_row, []⟩
theorem k__law_row : css 4194304 c__law_row (defBody s__law_row) = some b__law_row := by kernel_rfl
theorem sc__law_row : FnScope c__law_row.N ["_law_source_here", "_law_at"] c__law_row.sc := ⟨rfl, rfl, rfl, by decide +kernel, rfl, by decide +kernel, by decide +kernel⟩
/-! ### _law_two -/
abbrev s__law_two : Stmt := top 31
def b__law_two : S :=
  (.ret (.lst (.cons (.bin .fdiv (.var 0) (.cst (.int 256))) (.cons (.bin .mod (.var 0) (.cst (.int 256))) .nil))))
def F__law_two : Fn := mkFn 1 [false] b__law_two
@[simp] theorem io__law_two : F__law_two.io = [false] := rfl
def t__law_two : List (Str × GI) := []
def m__law_two : MTab := []
def c__law_two : Cc := ⟨["_law_number_here"], defScope s__law_two, fun _ => true, (fun x => t__law_two.lookup x), 1, [], [], flT, msOf m__law_two, []⟩
theorem k__law_two : css 4194304 c__law_two (defBody s__law_two) = some b__law_two := by kernel_rfl
theorem sc__law_two : FnScope c__law_two.N ["_law_number_here"] c__law_two.sc := ⟨rfl, rfl, rfl, by decide +kernel, rfl, by decide +kernel, by decide +kernel⟩
/-! ### _law_four -/
abbrev s__law_four : Stmt := top 32
def b__law_four : S :=
  (.seq (.asg (.name 0) (.bin .mod (.var 0) (.cst (.int 4294967296))))
  (.ret (.bin .add (.call F__law_two (.ci (.bin .fdiv (.var 0) (.cst (.int 65536))) .nil)) (.call F__law_two (.ci (.bin .mod (.var 0) (.cst (.int 65536))) .nil)))))
def F__law_four : Fn := mkFn 1 [false] b__law_four
@[simp] theorem io__law_four : F__law_four.io = [false] := rfl
def t__law_four : List (Str × GI) := [("_law_two", .fn F__law_two)]
def m__law_four : MTab := []
def c__law_four : Cc := ⟨["_law_number_here"], defScope s__law_four, fun _ => true, (fun x => t__law_four.lookup x), 1, [], [], flT, msOf m__law_four, []⟩
theorem k__law_four : css 4194304 c__law_four (defBody s__law_four) = some b__law_four := by kernel_rfl
theorem sc__law_four : FnScope c__law_four.N ["_law_number_here"] c__law_four.sc := ⟨rfl, rfl, rfl, by decide +kernel, rfl, by decide +kernel, by decide +kernel⟩
/-! ### _law_cells -/
abbrev s__law_cells : Stmt := top 33
def b__law_cells : S :=
  (.seq (.asg (.name 3) (.idx (.var 0) (.cst (.int 0))))
  (.seq (.ife (.cmp .inn (.var 3) (.tup (.cons (.cst (.str "add")) (.cons (.cst (.str "take")) .nil))))
  (.ret (.lst (.cons (.bin .add (.bin .add (.idx (.dct [.inr "add", .inr "take"] (.cons (.cst (.int 32)) (.cons (.cst (.int 48)) .nil))) (.var 3)) (.bin .mul (.cst (.int 4)) (.idx (.var 0) (.cst (.int 1))))) (.idx (.var 0) (.cst (.int 2)))) .nil)))
  .pass)
  (.seq (.ife (.cmp .inn (.var 3) (.tup (.cons (.cst (.str "say")) (.cons (.cst (.str "ask")) .nil))))
  (.ret (.lst (.cons (.bin .add (.idx (.dct [.inr "say", .inr "ask"] (.cons (.cst (.int 64)) (.cons (.cst (.int 68)) .nil))) (.var 3)) (.idx (.var 0) (.cst (.int 1)))) .nil)))
  .pass)
  (.seq (.ife (.cmp .inn (.var 3) (.tup (.cons (.cst (.str "back")) (.cons (.cst (.str "stop")) .nil))))
  (.ret (.lst (.cons (.idx (.dct [.inr "back", .inr "stop"] (.cons (.cst (.int 98)) (.cons (.cst (.int 99)) .nil))) (.var 3)) .nil)))
  .pass)
  (.seq (.ife (.cmp .eq (.var 3) (.cst (.str "set")))
  (.ret (.bin .add (.lst (.cons (.bin .add (.cst (.int 16)) (.idx (.var 0) (.cst (.int 1)))) .nil)) (.call F__law_four (.ci (.idx (.var 0) (.cst (.int 2))) .nil))))
  .pass)
  (.seq (.ife (.cmp .eq (.var 3) (.cst (.str "alike")))
  (.ret (.bin .add (.bin .add (.lst (.cons (.bin .add (.cst (.int 144)) (.idx (.var 0) (.cst (.int 1)))) .nil)) (.call F__law_two (.ci (.idx (.var 0) (.cst (.int 2))) .nil))) (.call F__law_two (.ci (.idx (.var 0) (.cst (.int 3))) .nil))))
  .pass)
  (.seq (.asg (.name 4) (.idx (.dct [.inr "jump", .inr "call", .inr "jumpif", .inr "jumpby", .inr "load"] (.cons (.tup (.cons (.cst (.int 80)) (.cons (.cst (.int 81)) .nil))) (.cons (.tup (.cons (.cst (.int 82)) (.cons (.cst (.int 83)) .nil))) (.cons (.tup (.cons (.cst (.int 84)) (.cons (.cst (.int 88)) .nil))) (.cons (.tup (.cons (.cst (.int 100)) (.cons (.cst (.int 104)) .nil))) (.cons (.tup (.cons (.cst (.int 112)) (.cons (.cst (.int 128)) .nil))) .nil)))))) (.var 3)))
  (.seq (.asg (.name 5) (.cst (.int 0)))
  (.seq (.ife (.cmp .inn (.var 3) (.tup (.cons (.cst (.str "jumpif")) (.cons (.cst (.str "jumpby")) .nil))))
  (.asg (.name 5) (.idx (.var 0) (.cst (.int 1))))
  .pass)
  (.seq (.ife (.cmp .eq (.var 3) (.cst (.str "load")))
  (.asg (.name 5) (.bin .add (.bin .mul (.cst (.int 4)) (.idx (.var 0) (.cst (.int 1)))) (.idx (.var 0) (.cst (.int 2)))))
  .pass)
  (.seq (.ife (.var 2)
  (.ret (.lst (.cons (.bin .add (.idx (.var 4) (.cst (.int 0))) (.var 5)) (.cons (.bin .mod (.bin .sub (.bin .sub (.idx (.var 0) (.neg (.cst (.int 1)))) (.var 1)) (.cst (.int 2))) (.cst (.int 256))) .nil))))
  .pass)
  (.ret (.bin .add (.lst (.cons (.bin .add (.idx (.var 4) (.cst (.int 1))) (.var 5)) .nil)) (.call F__law_two (.ci (.idx (.var 0) (.neg (.cst (.int 1)))) .nil)))))))))))))))
def F__law_cells : Fn := mkFn 6 [false, false, false] b__law_cells
@[simp] theorem io__law_cells : F__law_cells.io = [false, false, false] := rfl
def t__law_cells : List (Str × GI) := [("_law_two", .fn F__law_two), ("_law_four", .fn F__law_four)]
def m__law_cells : MTab := []
def c__law_cells : Cc := ⟨["_law_row_here", "_law_at", "_law_near", "_law_kind", "_law_some", "_law_boxes"], defScope s__law_cells, fun _ => true, (fun x => t__law_cells.lookup x), 3, [], [], flT, msOf m__law_cells, []⟩
theorem k__law_cells : css 4194304 c__law_cells (defBody s__law_cells) = some b__law_cells := by kernel_rfl
theorem sc__law_cells : FnScope c__law_cells.N ["_law_row_here", "_law_at", "_law_near"] c__law_cells.sc := ⟨rfl, rfl, rfl, by decide +kernel, rfl, by decide +kernel, by decide +kernel⟩
/-! ### _law_told -/
abbrev s__law_told : Stmt := top 34
def b__law_told : S :=
  (.ret (.and (.isi (.var 0) .tuple) (.cmp .eq (.bi .len (.cons (.var 0) .nil)) (.var 1))))
def F__law_told : Fn := mkFn 2 [false, false] b__law_told
@[simp] theorem io__law_told : F__law_told.io = [false, false] := rfl
def t__law_told : List (Str × GI) := [("len", .blt), ("isinstance", .blt), ("tuple", .blt)]
def m__law_told : MTab := []
def c__law_told : Cc := ⟨["_law_found", "_law_many"], defScope s__law_told, fun _ => true, (fun x => t__law_told.lookup x), 2, [], [], flT, msOf m__law_told, []⟩
theorem k__law_told : css 4194304 c__law_told (defBody s__law_told) = some b__law_told := by kernel_rfl
theorem sc__law_told : FnScope c__law_told.N ["_law_found", "_law_many"] c__law_told.sc := ⟨rfl, rfl, rfl, by decide +kernel, rfl, by decide +kernel, by decide +kernel⟩
/-! ### _law_all_read -/
abbrev s__law_all_read : Stmt := top 35
def b__law_all_read : S :=
  (.seq (.asg (.name 2) (.bi .list (.cons (.var 0) .nil)))
  (.seq (.for (.tup [(.name 3), (.name 4), (.name 5), (.name 6)]) (.lst (.var 1))
  (.ife (.lend (.cmp .inn (.idx (.var 4) (.cst (.int 0))) (.tup (.cons (.cst (.str "numbers")) (.cons (.cst (.str "table")) .nil)))))
  (.seq (.asg (.name 7) (.call F_read_table (.ci (.var 2) (.ci (.var 3) .nil))))
  (.seq (.ife (.lend (.cmp .eq (.idx (.var 4) (.cst (.int 0))) (.cst (.str "numbers"))))
  (.asg (.name 7) (.call F_read_numbers (.ci (.var 2) (.ci (.var 3) .nil))))
  .pass)
  (.seq (.ife (.lend (.or (.not (.call F__law_told (.ci (.var 7) (.ci (.cst (.int 2)) .nil)))) (.or (.not (.isi (.sub (.var 7) 0) .list)) (.cmp .ne (.var 7) (.tup (.cons (.idx (.var 4) (.cst (.int 1))) (.cons (.var 6) .nil)))))))
  (.ret (.cst (.bl false)))
  .pass)
  (.seq (.ife (.lend (.cmp .ne (.call F_cells_of (.ci (.tup (.cons (.idx (.var 4) (.cst (.int 0))) (.cons (.sub (.var 7) 0) .nil))) (.ci (.var 3) (.ci (.cst .non) .nil)))) (.sli (.var 0) (.so (.var 3)) (.so (.var 6)))))
  (.ret (.cst (.bl false)))
  .pass)
  (.appP 7 0 (.cst (.int 9)))))))
  (.seq (.asg (.name 7) (.call F_read_code (.ci (.var 2) (.ci (.var 3) .nil))))
  (.seq (.ife (.lend (.or (.not (.call F__law_told (.ci (.var 7) (.ci (.cst (.int 3)) .nil)))) (.cmp .ne (.var 7) (.tup (.cons (.var 4) (.cons (.var 5) (.cons (.var 6) .nil)))))))
  (.ret (.cst (.bl false)))
  .pass)
  (.seq (.ife (.lend (.and (.cmp .isnt (.var 5) (.cst .non)) (.not (.isi (.sub (.var 7) 1) .bool))))
  (.ret (.cst (.bl false)))
  .pass)
  (.ife (.lend (.or (.not (.isi (.sub (.var 7) 0) .tuple)) (.cmp .ne (.call F_cells_of (.ci (.sub (.var 7) 0) (.ci (.var 3) (.ci (.sub (.var 7) 1) .nil)))) (.sli (.var 0) (.so (.var 3)) (.so (.var 6))))))
  (.ret (.cst (.bl false)))
  .pass))))))
  (.ret (.cmp .eq (.var 2) (.var 0)))))
def F__law_all_read : Fn := mkFn 8 [false, false] b__law_all_read
@[simp] theorem io__law_all_read : F__law_all_read.io = [false, false] := rfl
def t__law_all_read : List (Str × GI) := [("cells_of", .fn F_cells_of), ("isinstance", .blt), ("list", .blt), ("_law_told", .fn F__law_told), ("read_numbers", .fn F_read_numbers), ("read_table", .fn F_read_table), ("tuple", .blt), ("bool", .blt), ("read_code", .fn F_read_code)]
def m__law_all_read : MTab := []
def c__law_all_read : Cc := ⟨["_law_cells_here", "_law_laid_rows", "_law_handed", "_law_at", "_law_row_here", "_law_near", "_law_behind", "_law_found"], defScope s__law_all_read, fun _ => true, (fun x => t__law_all_read.lookup x), 2, [(204, 43), (202, 62), (213, 88), (213, 64), (213, 30), (211, 57)], [], flT, msOf m__law_all_read, [(198, 11), (204, 15), (202, 15), (200, 15), (213, 15), (211, 15), (209, 15)]⟩
theorem k__law_all_read : css 4194304 c__law_all_read (defBody s__law_all_read) = some b__law_all_read := by kernel_rfl
theorem sc__law_all_read : FnScope c__law_all_read.N ["_law_cells_here", "_law_laid_rows"] c__law_all_read.sc := ⟨rfl, rfl, rfl, by decide +kernel, rfl, by decide +kernel, by decide +kernel⟩
/-! ### law -/
abbrev s_law : Stmt := top 36
def b_law : S :=
  (.seq (.for (.name 1) (.lst (.bin .add (.sli (.var 0) .no (.so (.cst (.int 20)))) (.lst (.cons (.cst (.int 0)) .nil))))
  (.seq (.asg (.name 2) (.call F__law_source (.ci (.var 1) .nil)))
  (.seq (.asg (.name 3) (.comp (.call F__law_next (.cx 2 (.ci (.cst (.int 256)) .nil))) (.name 5) (.rng (.cons (.call F__law_next (.cx 2 (.ci (.cst (.int 200)) .nil))) .nil)) .no))
  (.seq (.asg (.name 4) (.lst .nil))
  (.seq (.for (.name 5) (.rng (.cons (.bin .add (.cst (.int 1)) (.call F__law_next (.cx 2 (.ci (.cst (.int 5)) .nil)))) .nil))
  (.seq (.asg (.name 7) (.bi .len (.cons (.var 3) .nil)))
  (.seq (.asg (.tup [(.name 9), (.name 10)]) (.call F__law_row (.cx 2 (.ci (.var 7) .nil))))
  (.seq (.asg (.name 3) (.bin .add (.var 3) (.call F__law_cells (.ci (.var 9) (.ci (.var 7) (.ci (.var 10) .nil))))))
  (.app 4 (.tup (.cons (.var 7) (.cons (.var 9) (.cons (.var 10) (.cons (.bi .len (.cons (.var 3) .nil)) .nil))))))))))
  (.seq (.for (.name 6) (.lst (.lst (.cons (.cst (.str "numbers")) (.cons (.cst (.str "table")) .nil))))
  (.seq (.asg (.name 8) (.comp (.call F__law_number (.cx 2 .nil)) (.name 5) (.rng (.cons (.bin .add (.cst (.int 1)) (.call F__law_next (.cx 2 (.ci (.cst (.int 6)) .nil)))) .nil)) .no))
  (.seq (.ife (.cmp .eq (.var 6) (.cst (.str "table")))
  (.asg (.name 8) (.comp (.bin .mod (.var 11) (.cst (.int 65536))) (.name 11) (.lst (.var 8)) .no))
  .pass)
  (.seq (.asg (.name 7) (.bi .len (.cons (.var 3) .nil)))
  (.seq (.asg (.name 3) (.bin .add (.var 3) (.call F_cells_of (.ci (.tup (.cons (.var 6) (.cons (.bi .list (.cons (.var 8) .nil)) .nil))) (.ci (.var 7) (.ci (.cst .non) .nil))))))
  (.app 4 (.tup (.cons (.var 7) (.cons (.tup (.cons (.var 6) (.cons (.var 8) .nil))) (.cons (.cst .non) (.cons (.bi .len (.cons (.var 3) .nil)) .nil)))))))))))
  (.seq (.asg (.name 3) (.bin .add (.var 3) (.comp (.call F__law_next (.cx 2 (.ci (.cst (.int 256)) .nil))) (.name 5) (.rng (.cons (.call F__law_next (.cx 2 (.ci (.cst (.int 3)) .nil))) .nil)) .no)))
  (.ife (.not (.call F__law_all_read (.ci (.var 3) (.ci (.var 4) .nil))))
  (.ret (.cst (.bl false)))
  .pass))))))))
  (.ret (.cst (.bl true))))
def F_law : Fn := mkFn 12 [false] b_law
@[simp] theorem io_law : F_law.io = [false] := rfl
def t_law : List (Str × GI) := [("_law_all_read", .fn F__law_all_read), ("_law_next", .fn F__law_next), ("range", .blt), ("len", .blt), ("cells_of", .fn F_cells_of), ("list", .blt), ("_law_number", .fn F__law_number), ("_law_cells", .fn F__law_cells), ("_law_row", .fn F__law_row), ("_law_source", .fn F__law_source)]
def m_law : MTab := []
def c_law : Cc := ⟨["_law_script", "_law_draw", "_law_source_here", "_law_cells_here", "_law_laid_rows", "_law_k", "_law_kind", "_law_at", "_law_some", "_law_row_here", "_law_near", "_law_number_here"], defScope s_law, fun _ => true, (fun x => t_law.lookup x), 1, [], [], flT, msOf m_law, []⟩
theorem k_law : css 4194304 c_law (defBody s_law) = some b_law := by kernel_rfl
theorem sc_law : FnScope c_law.N ["_law_script"] c_law.sc := ⟨rfl, rfl, rfl, by decide +kernel, rfl, by decide +kernel, by decide +kernel⟩
/-! ### the head -/
def d_two_cells : He.DefD := ⟨("two_cells", none), "two_cells", "two_cells", defArgs s_two_cells, defBody s_two_cells, defScope s_two_cells, [], []⟩
def d_four_cells : He.DefD := ⟨("four_cells", none), "four_cells", "four_cells", defArgs s_four_cells, defBody s_four_cells, defScope s_four_cells, [], []⟩
def d_first_cell : He.DefD := ⟨("first_cell", none), "first_cell", "first_cell", defArgs s_first_cell, defBody s_first_cell, defScope s_first_cell, [], []⟩
def d_cells_of : He.DefD := ⟨("cells_of", none), "cells_of", "cells_of", defArgs s_cells_of, defBody s_cells_of, defScope s_cells_of, [], []⟩
def d_wide : He.DefD := ⟨("wide", none), "wide", "wide", defArgs s_wide, defBody s_wide, defScope s_wide, [], []⟩
def d_signed : He.DefD := ⟨("signed", none), "signed", "signed", defArgs s_signed, defBody s_signed, defScope s_signed, [], []⟩
def d_boxes_of : He.DefD := ⟨("boxes_of", none), "boxes_of", "boxes_of", defArgs s_boxes_of, defBody s_boxes_of, defScope s_boxes_of, [], []⟩
def d_kind_of : He.DefD := ⟨("kind_of", none), "kind_of", "kind_of", defArgs s_kind_of, defBody s_kind_of, defScope s_kind_of, [], []⟩
def d_read_rest : He.DefD := ⟨("read_rest", none), "read_rest", "read_rest", defArgs s_read_rest, defBody s_read_rest, defScope s_read_rest, [], []⟩
def d_within : He.DefD := ⟨("within", none), "within", "within", defArgs s_within, defBody s_within, defScope s_within, [], []⟩
def d_read_code : He.DefD := ⟨("read_code", none), "read_code", "read_code", defArgs s_read_code, defBody s_read_code, defScope s_read_code, [], []⟩
def d_read_list : He.DefD := ⟨("read_list", none), "read_list", "read_list", defArgs s_read_list, defBody s_read_list, defScope s_read_list, [], []⟩
def d_read_numbers : He.DefD := ⟨("read_numbers", none), "read_numbers", "read_numbers", defArgs s_read_numbers, defBody s_read_numbers, defScope s_read_numbers, [], []⟩
def d_read_table : He.DefD := ⟨("read_table", none), "read_table", "read_table", defArgs s_read_table, defBody s_read_table, defScope s_read_table, [], []⟩
def d__law_mixed : He.DefD := ⟨("_law_mixed", none), "_law_mixed", "_law_mixed", defArgs s__law_mixed, defBody s__law_mixed, defScope s__law_mixed, [], []⟩
def d__law_next : He.DefD := ⟨("_law_next", none), "_law_next", "_law_next", defArgs s__law_next, defBody s__law_next, defScope s__law_next, [], []⟩
def d__law_source : He.DefD := ⟨("_law_source", none), "_law_source", "_law_source", defArgs s__law_source, defBody s__law_source, defScope s__law_source, [], []⟩
def d__law_number : He.DefD := ⟨("_law_number", none), "_law_number", "_law_number", defArgs s__law_number, defBody s__law_number, defScope s__law_number, [], []⟩
def d__law_place : He.DefD := ⟨("_law_place", none), "_law_place", "_law_place", defArgs s__law_place, defBody s__law_place, defScope s__law_place, [], []⟩
def d__law_row : He.DefD := ⟨("_law_row", none), "_law_row", "_law_row", defArgs s__law_row, defBody s__law_row, defScope s__law_row, [], []⟩
def d__law_two : He.DefD := ⟨("_law_two", none), "_law_two", "_law_two", defArgs s__law_two, defBody s__law_two, defScope s__law_two, [], []⟩
def d__law_four : He.DefD := ⟨("_law_four", none), "_law_four", "_law_four", defArgs s__law_four, defBody s__law_four, defScope s__law_four, [], []⟩
def d__law_cells : He.DefD := ⟨("_law_cells", none), "_law_cells", "_law_cells", defArgs s__law_cells, defBody s__law_cells, defScope s__law_cells, [], []⟩
def d__law_told : He.DefD := ⟨("_law_told", none), "_law_told", "_law_told", defArgs s__law_told, defBody s__law_told, defScope s__law_told, [], []⟩
def d__law_all_read : He.DefD := ⟨("_law_all_read", none), "_law_all_read", "_law_all_read", defArgs s__law_all_read, defBody s__law_all_read, defScope s__law_all_read, [], []⟩
def d_law : He.DefD := ⟨("law", none), "law", "law", defArgs s_law, defBody s_law, defScope s_law, [], []⟩
def fn : List He.DefD := [d_two_cells, d_four_cells, d_first_cell, d_cells_of, d_wide, d_signed, d_boxes_of, d_kind_of, d_read_rest, d_within, d_read_code, d_read_list, d_read_numbers, d_read_table, d__law_mixed, d__law_next, d__law_source, d__law_number, d__law_place, d__law_row, d__law_two, d__law_four, d__law_cells, d__law_told, d__law_all_read, d_law]
def fa0 : List He.Fa := [.glo "two_cells", .glo "four_cells", .glo "first_cell", .glo "cells_of", .glo "wide", .glo "signed", .glo "boxes_of", .glo "kind_of", .glo "read_rest", .glo "within", .glo "read_code", .glo "read_list", .glo "read_numbers", .glo "read_table", .glo "_law_mixed", .glo "_law_next", .glo "_law_source", .glo "_law_number", .glo "_law_place", .glo "_law_row", .glo "_law_two", .glo "_law_four", .glo "_law_cells", .glo "_law_told", .glo "_law_all_read", .glo "law", .int "PLACES" 65536, .int "NUMBERS" 4294967296, .glo "MORE", .glo "BOXES"]
def fa1 : List He.Fa := [.glo "FIRST", .free "len", .free "sum", .free "divmod", .free "range", .free "isinstance", .free "tuple", .free "list", .free "bool"]
def fa : List He.Fa := fa0 ++ fa1
abbrev R : PySem.W.OpenRow := PySem.W.OpenLaw.row PySem.Challenge.rw_farjump_k22_cells_read_back
def ts : List He.Tab := [((fun K => He.ga K "MORE"), ["jump", "call", "jumpif", "jumpby", "load"]), ((fun K => He.ga K "BOXES"), ["set", "add", "take", "say", "ask", "jumpif", "jumpby", "load", "alike"]), ((fun K => He.ga K "FIRST"), ["set", "add", "take", "say", "ask", "jump", "call", "jumpif", "back", "stop", "jumpby", "load", "alike"])]
def ex (K : PySem.W.Frag) : Bool := tabI K (He.ga K "MORE") [("jump", 1), ("call", 1), ("jumpif", 4), ("jumpby", 4), ("load", 16)] ["set", "add", "take", "say", "ask", "back", "stop", "alike"] && tabI K (He.ga K "BOXES") [("set", 1), ("add", 2), ("take", 2), ("say", 1), ("ask", 1), ("jumpif", 1), ("jumpby", 1), ("load", 2), ("alike", 1)] ["jump", "call", "back", "stop"] && tabI K (He.ga K "FIRST") [("set", 16), ("add", 32), ("take", 48), ("say", 64), ("ask", 68), ("jump", 80), ("call", 82), ("jumpif", 84), ("back", 98), ("stop", 99), ("jumpby", 100), ("load", 112), ("alike", 144)] []
abbrev hk : PySem.W.Hook := He.hookX 5 fa fn ts [] ex
def ob (s : PySem.W.SharedT) : He.AlX := He.obsX 5 fa fn ts [] ex (HandSHeadRun.getT s)
theorem ob_eq (s : PySem.W.SharedT) : ob s = hk.obs s.abs := He.obsX_eq (HandSHeadRun.getT_eq s)
def loose0 : List Str := ["__name__", "PartError", "NoCells", "PLACES", "NUMBERS", "FIRST", "MORE", "BOXES", "two_cells", "four_cells", "first_cell", "cells_of", "wide", "signed", "kind_of", "boxes_of", "read_rest", "within", "read_code", "read_list", "read_numbers", "read_table", "_law_cell_at", "_law_mixed", "_law_next", "_law_source", "_law_number", "_law_place", "_law_row", "_law_two"]
def loose1 : List Str := ["_law_four", "_law_cells", "_law_told", "_law_all_read"]
def loose : List Str := loose0 ++ loose1
theorem run (w : World) : HandSHeadRun.RunEq R (PySem.W.view R.prog [36]) hk ob 40000 loose w :=
  PySem.W.byRow2 "special-get-raises" (P := fun w => HandSHeadRun.RunEq R (PySem.W.view R.prog [36]) hk ob 40000 loose w)
    (fun w => by intro os; kernel_rfl)
    (fun w => by intro os; kernel_rfl) w
theorem facts {P : Program} {w : World} {K : PySem.W.Frag} {h : Heap} {mg : Str → Option Value} {f : Addr} (X : K.In h) (G : h.Ns mainGlobals mg) (hfa : mg ("law" : Str) = some (.ref f)) (c0 : He.SaysX fa fn ts [] ex w h K) :
    ∃ fd : FuncData, (∀ (s : Shared) (v : Value), BindsTo s fd ⟨[v], []⟩ [("_law_script", v)]) ∧ ∀ base : Heap, K.In base → base.Ns mainGlobals mg → FnOk P w K mg base CX0 5 f fd ["_law_script"] (spFn (CtOf K w CN CF) F_law) := by
  have c := c0.t.d
  have cx := c0.more
  simp only [ex, Bool.and_eq_true] at cx
  obtain ⟨⟨cx0, cx1⟩, cx2⟩ := cx
  obtain ⟨fd0, D0⟩ := c.def_ 0 (d := d_two_cells) rfl
  obtain ⟨fd1, D1⟩ := c.def_ 1 (d := d_four_cells) rfl
  obtain ⟨fd2, D2⟩ := c.def_ 2 (d := d_first_cell) rfl
  obtain ⟨fd3, D3⟩ := c.def_ 3 (d := d_cells_of) rfl
  obtain ⟨fd4, D4⟩ := c.def_ 4 (d := d_wide) rfl
  obtain ⟨fd5, D5⟩ := c.def_ 5 (d := d_signed) rfl
  obtain ⟨fd6, D6⟩ := c.def_ 6 (d := d_boxes_of) rfl
  obtain ⟨fd7, D7⟩ := c.def_ 7 (d := d_kind_of) rfl
  obtain ⟨fd8, D8⟩ := c.def_ 8 (d := d_read_rest) rfl
  obtain ⟨fd9, D9⟩ := c.def_ 9 (d := d_within) rfl
  obtain ⟨fd10, D10⟩ := c.def_ 10 (d := d_read_code) rfl
  obtain ⟨fd11, D11⟩ := c.def_ 11 (d := d_read_list) rfl
  obtain ⟨fd12, D12⟩ := c.def_ 12 (d := d_read_numbers) rfl
  obtain ⟨fd13, D13⟩ := c.def_ 13 (d := d_read_table) rfl
  obtain ⟨fd14, D14⟩ := c.def_ 14 (d := d__law_mixed) rfl
  obtain ⟨fd15, D15⟩ := c.def_ 15 (d := d__law_next) rfl
  obtain ⟨fd16, D16⟩ := c.def_ 16 (d := d__law_source) rfl
  obtain ⟨fd17, D17⟩ := c.def_ 17 (d := d__law_number) rfl
  obtain ⟨fd18, D18⟩ := c.def_ 18 (d := d__law_place) rfl
  obtain ⟨fd19, D19⟩ := c.def_ 19 (d := d__law_row) rfl
  obtain ⟨fd20, D20⟩ := c.def_ 20 (d := d__law_two) rfl
  obtain ⟨fd21, D21⟩ := c.def_ 21 (d := d__law_four) rfl
  obtain ⟨fd22, D22⟩ := c.def_ 22 (d := d__law_cells) rfl
  obtain ⟨fd23, D23⟩ := c.def_ 23 (d := d__law_told) rfl
  obtain ⟨fd24, D24⟩ := c.def_ 24 (d := d__law_all_read) rfl
  obtain ⟨fd25, D25⟩ := c.def_ 25 (d := d_law) rfl
  have e := hfa.symm.trans (He.glo_ok X G (c.fact 25 (f := .glo "law") rfl))
  cases e
  have b := FunD.bindsA (ps := ["_law_script"]) D25 fun _ _ _ _ _ _ us hl => match us, hl with | [_], _ => rfl
  refine ⟨fd25, fun s v => b s [v] rfl, fun base _ _ => ?_⟩
  have FL : ∀ m q i, flT m q = some i → FOk K (CtOf K w CN CF) q m i := by
    intro m q i h
    simp [flT, CF, slotOf] at h
  have T_two_cells : ∀ p ∈ t_two_cells, GOk P w K mg base (CtOf K w CN CF) 0 p.1 p.2 := by
    unfold t_two_cells
    intro p hp; cases hp
  have M_two_cells : ∀ m io tb, msOf m_two_cells m = some (io, tb) → ∀ q f, tb q = some f → f.io = io ∧ MOk P w K mg base (CtOf K w CN CF) 0 q m f := by
    refine ms_ok ?_
    unfold m_two_cells
    intro e he; cases he
  have fn_0 : FnOk P w K mg base CX0 1 _ fd0 ["number"] (spFn (CtOf K w CN CF) F_two_cells) := fn_ok (k := 0) D0 sc_two_cells rfl ⟨rfl, rfl⟩ k_two_cells rfl (by decide) (tab_ok T_two_cells) FL M_two_cells
  have bd_0 : Binds K fd0 ["number"] [] := D0.bindsN (fun _ _ _ _ _ _ us hl => match us, hl with | [_], _ => rfl)
  have g_two_cells : GOk P w K mg base (CtOf K w CN CF) 1 "two_cells" (.fn F_two_cells) := ⟨_, _, _, He.glo_ok X G (c.fact 0 (f := .glo "two_cells") rfl), fn_0, D0.kp, bd_0⟩
  have T_four_cells : ∀ p ∈ t_four_cells, GOk P w K mg base (CtOf K w CN CF) 1 p.1 p.2 := by
    unfold t_four_cells
    simp only [List.forall_mem_cons, List.not_mem_nil, false_implies, implies_true, and_true]
    exact ⟨GOk.mono (by decide) g_two_cells, gok_int (He.int_ok X G (c.fact 26 (f := .int "PLACES" 65536) rfl)), gok_int (He.int_ok X G (c.fact 27 (f := .int "NUMBERS" 4294967296) rfl))⟩
  have M_four_cells : ∀ m io tb, msOf m_four_cells m = some (io, tb) → ∀ q f, tb q = some f → f.io = io ∧ MOk P w K mg base (CtOf K w CN CF) 1 q m f := by
    refine ms_ok ?_
    unfold m_four_cells
    intro e he; cases he
  have fn_1 : FnOk P w K mg base CX0 2 _ fd1 ["number"] (spFn (CtOf K w CN CF) F_four_cells) := fn_ok (k := 1) D1 sc_four_cells rfl ⟨rfl, rfl⟩ k_four_cells rfl (by decide) (tab_ok T_four_cells) FL M_four_cells
  have bd_1 : Binds K fd1 ["number"] [] := D1.bindsN (fun _ _ _ _ _ _ us hl => match us, hl with | [_], _ => rfl)
  have g_four_cells : GOk P w K mg base (CtOf K w CN CF) 2 "four_cells" (.fn F_four_cells) := ⟨_, _, _, He.glo_ok X G (c.fact 1 (f := .glo "four_cells") rfl), fn_1, D1.kp, bd_1⟩
  have T_first_cell : ∀ p ∈ t_first_cell, GOk P w K mg base (CtOf K w CN CF) 0 p.1 p.2 := by
    unfold t_first_cell
    simp only [List.forall_mem_cons, List.not_mem_nil, false_implies, implies_true, and_true]
    exact ⟨gok_tab (He.glo_ok X G (c.fact 28 (f := .glo "MORE") rfl)) (c0.t.tab 0) cx0, gok_tab (He.glo_ok X G (c.fact 29 (f := .glo "BOXES") rfl)) (c0.t.tab 1) cx1, gok_tab (He.glo_ok X G (c.fact 30 (f := .glo "FIRST") rfl)) (c0.t.tab 2) cx2⟩
  have M_first_cell : ∀ m io tb, msOf m_first_cell m = some (io, tb) → ∀ q f, tb q = some f → f.io = io ∧ MOk P w K mg base (CtOf K w CN CF) 0 q m f := by
    refine ms_ok ?_
    unfold m_first_cell
    intro e he; cases he
  have fn_2 : FnOk P w K mg base CX0 1 _ fd2 ["row", "near"] (spFn (CtOf K w CN CF) F_first_cell) := fn_ok (k := 0) D2 sc_first_cell rfl ⟨rfl, rfl⟩ k_first_cell rfl (by decide) (tab_ok T_first_cell) FL M_first_cell
  have bd_2 : Binds K fd2 ["row", "near"] [] := D2.bindsN (fun _ _ _ _ _ _ us hl => match us, hl with | [_, _], _ => rfl)
  have g_first_cell : GOk P w K mg base (CtOf K w CN CF) 1 "first_cell" (.fn F_first_cell) := ⟨_, _, _, He.glo_ok X G (c.fact 2 (f := .glo "first_cell") rfl), fn_2, D2.kp, bd_2⟩
  have T_cells_of : ∀ p ∈ t_cells_of, GOk P w K mg base (CtOf K w CN CF) 2 p.1 p.2 := by
    unfold t_cells_of
    simp only [List.forall_mem_cons, List.not_mem_nil, false_implies, implies_true, and_true]
    exact ⟨GOk.mono (by decide) g_two_cells, GOk.mono (by decide) g_four_cells, GOk.mono (by decide) g_first_cell, He.free_ok X G (c.fact 31 (f := .free "len") rfl), He.free_ok X G (c.fact 32 (f := .free "sum") rfl)⟩
  have M_cells_of : ∀ m io tb, msOf m_cells_of m = some (io, tb) → ∀ q f, tb q = some f → f.io = io ∧ MOk P w K mg base (CtOf K w CN CF) 2 q m f := by
    refine ms_ok ?_
    unfold m_cells_of
    intro e he; cases he
  have fn_3 : FnOk P w K mg base CX0 3 _ fd3 ["row", "at", "near"] (spFn (CtOf K w CN CF) F_cells_of) := fn_ok (k := 2) D3 sc_cells_of rfl ⟨rfl, rfl⟩ k_cells_of rfl (by decide) (tab_ok T_cells_of) FL M_cells_of
  have bd_3 : Binds K fd3 ["row", "at", "near"] [] := D3.bindsN (fun _ _ _ _ _ _ us hl => match us, hl with | [_, _, _], _ => rfl)
  have g_cells_of : GOk P w K mg base (CtOf K w CN CF) 3 "cells_of" (.fn F_cells_of) := ⟨_, _, _, He.glo_ok X G (c.fact 3 (f := .glo "cells_of") rfl), fn_3, D3.kp, bd_3⟩
  have T_wide : ∀ p ∈ t_wide, GOk P w K mg base (CtOf K w CN CF) 0 p.1 p.2 := by
    unfold t_wide
    simp only [List.forall_mem_cons, List.not_mem_nil, false_implies, implies_true, and_true]
    exact He.free_ok X G (c.fact 31 (f := .free "len") rfl)
  have M_wide : ∀ m io tb, msOf m_wide m = some (io, tb) → ∀ q f, tb q = some f → f.io = io ∧ MOk P w K mg base (CtOf K w CN CF) 0 q m f := by
    refine ms_ok ?_
    unfold m_wide
    intro e he; cases he
  have fn_4 : FnOk P w K mg base CX0 1 _ fd4 ["cells", "at", "many"] (spFn (CtOf K w CN CF) F_wide) := fn_ok (k := 0) D4 sc_wide rfl ⟨rfl, rfl⟩ k_wide rfl (by decide) (tab_ok T_wide) FL M_wide
  have bd_4 : Binds K fd4 ["cells", "at", "many"] [] := D4.bindsN (fun _ _ _ _ _ _ us hl => match us, hl with | [_, _, _], _ => rfl)
  have g_wide : GOk P w K mg base (CtOf K w CN CF) 1 "wide" (.fn F_wide) := ⟨_, _, _, He.glo_ok X G (c.fact 4 (f := .glo "wide") rfl), fn_4, D4.kp, bd_4⟩
  have T_signed : ∀ p ∈ t_signed, GOk P w K mg base (CtOf K w CN CF) 0 p.1 p.2 := by
    unfold t_signed
    intro p hp; cases hp
  have M_signed : ∀ m io tb, msOf m_signed m = some (io, tb) → ∀ q f, tb q = some f → f.io = io ∧ MOk P w K mg base (CtOf K w CN CF) 0 q m f := by
    refine ms_ok ?_
    unfold m_signed
    intro e he; cases he
  have fn_5 : FnOk P w K mg base CX0 1 _ fd5 ["number", "bound"] (spFn (CtOf K w CN CF) F_signed) := fn_ok (k := 0) D5 sc_signed rfl ⟨rfl, rfl⟩ k_signed rfl (by decide) (tab_ok T_signed) FL M_signed
  have bd_5 : Binds K fd5 ["number", "bound"] [] := D5.bindsN (fun _ _ _ _ _ _ us hl => match us, hl with | [_, _], _ => rfl)
  have g_signed : GOk P w K mg base (CtOf K w CN CF) 1 "signed" (.fn F_signed) := ⟨_, _, _, He.glo_ok X G (c.fact 5 (f := .glo "signed") rfl), fn_5, D5.kp, bd_5⟩
  have T_boxes_of : ∀ p ∈ t_boxes_of, GOk P w K mg base (CtOf K w CN CF) 0 p.1 p.2 := by
    unfold t_boxes_of
    simp only [List.forall_mem_cons, List.not_mem_nil, false_implies, implies_true, and_true]
    exact ⟨He.free_ok X G (c.fact 33 (f := .free "divmod") rfl), gok_tab (He.glo_ok X G (c.fact 29 (f := .glo "BOXES") rfl)) (c0.t.tab 1) cx1⟩
  have M_boxes_of : ∀ m io tb, msOf m_boxes_of m = some (io, tb) → ∀ q f, tb q = some f → f.io = io ∧ MOk P w K mg base (CtOf K w CN CF) 0 q m f := by
    refine ms_ok ?_
    unfold m_boxes_of
    intro e he; cases he
  have fn_6 : FnOk P w K mg base CX0 1 _ fd6 ["kind", "number"] (spFn (CtOf K w CN CF) F_boxes_of) := fn_ok (k := 0) D6 sc_boxes_of rfl ⟨rfl, rfl⟩ k_boxes_of rfl (by decide) (tab_ok T_boxes_of) FL M_boxes_of
  have bd_6 : Binds K fd6 ["kind", "number"] [] := D6.bindsN (fun _ _ _ _ _ _ us hl => match us, hl with | [_, _], _ => rfl)
  have g_boxes_of : GOk P w K mg base (CtOf K w CN CF) 1 "boxes_of" (.fn F_boxes_of) := ⟨_, _, _, He.glo_ok X G (c.fact 6 (f := .glo "boxes_of") rfl), fn_6, D6.kp, bd_6⟩
  have T_kind_of : ∀ p ∈ t_kind_of, GOk P w K mg base (CtOf K w CN CF) 1 p.1 p.2 := by
    unfold t_kind_of
    simp only [List.forall_mem_cons, List.not_mem_nil, false_implies, implies_true, and_true]
    exact ⟨gok_tab (He.glo_ok X G (c.fact 30 (f := .glo "FIRST") rfl)) (c0.t.tab 2) cx2, gok_tab (He.glo_ok X G (c.fact 28 (f := .glo "MORE") rfl)) (c0.t.tab 0) cx0, GOk.mono (by decide) g_boxes_of, gok_tab (He.glo_ok X G (c.fact 29 (f := .glo "BOXES") rfl)) (c0.t.tab 1) cx1⟩
  have M_kind_of : ∀ m io tb, msOf m_kind_of m = some (io, tb) → ∀ q f, tb q = some f → f.io = io ∧ MOk P w K mg base (CtOf K w CN CF) 1 q m f := by
    refine ms_ok ?_
    unfold m_kind_of
    intro e he; cases he
  have fn_7 : FnOk P w K mg base CX0 2 _ fd7 ["cell"] (spFn (CtOf K w CN CF) F_kind_of) := fn_ok (k := 1) D7 sc_kind_of rfl ⟨rfl, rfl⟩ k_kind_of rfl (by decide) (tab_ok T_kind_of) FL M_kind_of
  have bd_7 : Binds K fd7 ["cell"] [] := D7.bindsN (fun _ _ _ _ _ _ us hl => match us, hl with | [_], _ => rfl)
  have g_kind_of : GOk P w K mg base (CtOf K w CN CF) 2 "kind_of" (.fn F_kind_of) := ⟨_, _, _, He.glo_ok X G (c.fact 7 (f := .glo "kind_of") rfl), fn_7, D7.kp, bd_7⟩
  have T_read_rest : ∀ p ∈ t_read_rest, GOk P w K mg base (CtOf K w CN CF) 1 p.1 p.2 := by
    unfold t_read_rest
    simp only [List.forall_mem_cons, List.not_mem_nil, false_implies, implies_true, and_true]
    exact ⟨GOk.mono (by decide) g_wide, gok_int (He.int_ok X G (c.fact 26 (f := .int "PLACES" 65536) rfl)), GOk.mono (by decide) g_signed, gok_int (He.int_ok X G (c.fact 27 (f := .int "NUMBERS" 4294967296) rfl))⟩
  have M_read_rest : ∀ m io tb, msOf m_read_rest m = some (io, tb) → ∀ q f, tb q = some f → f.io = io ∧ MOk P w K mg base (CtOf K w CN CF) 1 q m f := by
    refine ms_ok ?_
    unfold m_read_rest
    intro e he; cases he
  have fn_8 : FnOk P w K mg base CX0 2 _ fd8 ["cells", "at", "kind", "near"] (spFn (CtOf K w CN CF) F_read_rest) := fn_ok (k := 1) D8 sc_read_rest rfl ⟨rfl, rfl⟩ k_read_rest rfl (by decide) (tab_ok T_read_rest) FL M_read_rest
  have bd_8 : Binds K fd8 ["cells", "at", "kind", "near"] [] := D8.bindsN (fun _ _ _ _ _ _ us hl => match us, hl with | [_, _, _, _], _ => rfl)
  have g_read_rest : GOk P w K mg base (CtOf K w CN CF) 2 "read_rest" (.fn F_read_rest) := ⟨_, _, _, He.glo_ok X G (c.fact 8 (f := .glo "read_rest") rfl), fn_8, D8.kp, bd_8⟩
  have T_within : ∀ p ∈ t_within, GOk P w K mg base (CtOf K w CN CF) 0 p.1 p.2 := by
    unfold t_within
    simp only [List.forall_mem_cons, List.not_mem_nil, false_implies, implies_true, and_true]
    exact He.free_ok X G (c.fact 31 (f := .free "len") rfl)
  have M_within : ∀ m io tb, msOf m_within m = some (io, tb) → ∀ q f, tb q = some f → f.io = io ∧ MOk P w K mg base (CtOf K w CN CF) 0 q m f := by
    refine ms_ok ?_
    unfold m_within
    intro e he; cases he
  have fn_9 : FnOk P w K mg base CX0 1 _ fd9 ["cells", "at"] (spFn (CtOf K w CN CF) F_within) := fn_ok (k := 0) D9 sc_within rfl ⟨rfl, rfl⟩ k_within rfl (by decide) (tab_ok T_within) FL M_within
  have bd_9 : Binds K fd9 ["cells", "at"] [] := D9.bindsN (fun _ _ _ _ _ _ us hl => match us, hl with | [_, _], _ => rfl)
  have g_within : GOk P w K mg base (CtOf K w CN CF) 1 "within" (.fn F_within) := ⟨_, _, _, He.glo_ok X G (c.fact 9 (f := .glo "within") rfl), fn_9, D9.kp, bd_9⟩
  have T_read_code : ∀ p ∈ t_read_code, GOk P w K mg base (CtOf K w CN CF) 2 p.1 p.2 := by
    unfold t_read_code
    simp only [List.forall_mem_cons, List.not_mem_nil, false_implies, implies_true, and_true]
    exact ⟨GOk.mono (by decide) g_read_rest, GOk.mono (by decide) g_kind_of, GOk.mono (by decide) g_within⟩
  have M_read_code : ∀ m io tb, msOf m_read_code m = some (io, tb) → ∀ q f, tb q = some f → f.io = io ∧ MOk P w K mg base (CtOf K w CN CF) 2 q m f := by
    refine ms_ok ?_
    unfold m_read_code
    intro e he; cases he
  have fn_10 : FnOk P w K mg base CX0 3 _ fd10 ["cells", "at"] (spFn (CtOf K w CN CF) F_read_code) := fn_ok (k := 2) D10 sc_read_code rfl ⟨rfl, rfl⟩ k_read_code rfl (by decide) (tab_ok T_read_code) FL M_read_code
  have bd_10 : Binds K fd10 ["cells", "at"] [] := D10.bindsN (fun _ _ _ _ _ _ us hl => match us, hl with | [_, _], _ => rfl)
  have g_read_code : GOk P w K mg base (CtOf K w CN CF) 3 "read_code" (.fn F_read_code) := ⟨_, _, _, He.glo_ok X G (c.fact 10 (f := .glo "read_code") rfl), fn_10, D10.kp, bd_10⟩
  have T_read_list : ∀ p ∈ t_read_list, GOk P w K mg base (CtOf K w CN CF) 1 p.1 p.2 := by
    unfold t_read_list
    simp only [List.forall_mem_cons, List.not_mem_nil, false_implies, implies_true, and_true]
    exact ⟨GOk.mono (by decide) g_wide, He.free_ok X G (c.fact 34 (f := .free "range") rfl), GOk.mono (by decide) g_within⟩
  have M_read_list : ∀ m io tb, msOf m_read_list m = some (io, tb) → ∀ q f, tb q = some f → f.io = io ∧ MOk P w K mg base (CtOf K w CN CF) 1 q m f := by
    refine ms_ok ?_
    unfold m_read_list
    intro e he; cases he
  have fn_11 : FnOk P w K mg base CX0 2 _ fd11 ["cells", "at", "size"] (spFn (CtOf K w CN CF) F_read_list) := fn_ok (k := 1) D11 sc_read_list rfl ⟨rfl, rfl⟩ k_read_list rfl (by decide) (tab_ok T_read_list) FL M_read_list
  have bd_11 : Binds K fd11 ["cells", "at", "size"] [] := D11.bindsN (fun _ _ _ _ _ _ us hl => match us, hl with | [_, _, _], _ => rfl)
  have g_read_list : GOk P w K mg base (CtOf K w CN CF) 2 "read_list" (.fn F_read_list) := ⟨_, _, _, He.glo_ok X G (c.fact 11 (f := .glo "read_list") rfl), fn_11, D11.kp, bd_11⟩
  have T_read_numbers : ∀ p ∈ t_read_numbers, GOk P w K mg base (CtOf K w CN CF) 2 p.1 p.2 := by
    unfold t_read_numbers
    simp only [List.forall_mem_cons, List.not_mem_nil, false_implies, implies_true, and_true]
    exact ⟨GOk.mono (by decide) g_signed, gok_int (He.int_ok X G (c.fact 27 (f := .int "NUMBERS" 4294967296) rfl)), GOk.mono (by decide) g_read_list⟩
  have M_read_numbers : ∀ m io tb, msOf m_read_numbers m = some (io, tb) → ∀ q f, tb q = some f → f.io = io ∧ MOk P w K mg base (CtOf K w CN CF) 2 q m f := by
    refine ms_ok ?_
    unfold m_read_numbers
    intro e he; cases he
  have fn_12 : FnOk P w K mg base CX0 3 _ fd12 ["cells", "at"] (spFn (CtOf K w CN CF) F_read_numbers) := fn_ok (k := 2) D12 sc_read_numbers rfl ⟨rfl, rfl⟩ k_read_numbers rfl (by decide) (tab_ok T_read_numbers) FL M_read_numbers
  have bd_12 : Binds K fd12 ["cells", "at"] [] := D12.bindsN (fun _ _ _ _ _ _ us hl => match us, hl with | [_, _], _ => rfl)
  have g_read_numbers : GOk P w K mg base (CtOf K w CN CF) 3 "read_numbers" (.fn F_read_numbers) := ⟨_, _, _, He.glo_ok X G (c.fact 12 (f := .glo "read_numbers") rfl), fn_12, D12.kp, bd_12⟩
  have T_read_table : ∀ p ∈ t_read_table, GOk P w K mg base (CtOf K w CN CF) 2 p.1 p.2 := by
    unfold t_read_table
    simp only [List.forall_mem_cons, List.not_mem_nil, false_implies, implies_true, and_true]
    exact GOk.mono (by decide) g_read_list
  have M_read_table : ∀ m io tb, msOf m_read_table m = some (io, tb) → ∀ q f, tb q = some f → f.io = io ∧ MOk P w K mg base (CtOf K w CN CF) 2 q m f := by
    refine ms_ok ?_
    unfold m_read_table
    intro e he; cases he
  have fn_13 : FnOk P w K mg base CX0 3 _ fd13 ["cells", "at"] (spFn (CtOf K w CN CF) F_read_table) := fn_ok (k := 2) D13 sc_read_table rfl ⟨rfl, rfl⟩ k_read_table rfl (by decide) (tab_ok T_read_table) FL M_read_table
  have bd_13 : Binds K fd13 ["cells", "at"] [] := D13.bindsN (fun _ _ _ _ _ _ us hl => match us, hl with | [_, _], _ => rfl)
  have g_read_table : GOk P w K mg base (CtOf K w CN CF) 3 "read_table" (.fn F_read_table) := ⟨_, _, _, He.glo_ok X G (c.fact 13 (f := .glo "read_table") rfl), fn_13, D13.kp, bd_13⟩
  have T__law_mixed : ∀ p ∈ t__law_mixed, GOk P w K mg base (CtOf K w CN CF) 0 p.1 p.2 := by
    unfold t__law_mixed
    intro p hp; cases hp
  have M__law_mixed : ∀ m io tb, msOf m__law_mixed m = some (io, tb) → ∀ q f, tb q = some f → f.io = io ∧ MOk P w K mg base (CtOf K w CN CF) 0 q m f := by
    refine ms_ok ?_
    unfold m__law_mixed
    intro e he; cases he
  have fn_14 : FnOk P w K mg base CX0 1 _ fd14 ["_law_draw", "_law_k"] (spFn (CtOf K w CN CF) F__law_mixed) := fn_ok (k := 0) D14 sc__law_mixed rfl ⟨rfl, rfl⟩ k__law_mixed rfl (by decide) (tab_ok T__law_mixed) FL M__law_mixed
  have bd_14 : Binds K fd14 ["_law_draw", "_law_k"] [] := D14.bindsN (fun _ _ _ _ _ _ us hl => match us, hl with | [_, _], _ => rfl)
  have g__law_mixed : GOk P w K mg base (CtOf K w CN CF) 1 "_law_mixed" (.fn F__law_mixed) := ⟨_, _, _, He.glo_ok X G (c.fact 14 (f := .glo "_law_mixed") rfl), fn_14, D14.kp, bd_14⟩
  have T__law_next : ∀ p ∈ t__law_next, GOk P w K mg base (CtOf K w CN CF) 1 p.1 p.2 := by
    unfold t__law_next
    simp only [List.forall_mem_cons, List.not_mem_nil, false_implies, implies_true, and_true]
    exact GOk.mono (by decide) g__law_mixed
  have M__law_next : ∀ m io tb, msOf m__law_next m = some (io, tb) → ∀ q f, tb q = some f → f.io = io ∧ MOk P w K mg base (CtOf K w CN CF) 1 q m f := by
    refine ms_ok ?_
    unfold m__law_next
    intro e he; cases he
  have fn_15 : FnOk P w K mg base CX0 2 _ fd15 ["_law_source_here", "_law_many"] (spFn (CtOf K w CN CF) F__law_next) := fn_ok (k := 1) D15 sc__law_next rfl ⟨rfl, rfl⟩ k__law_next rfl (by decide) (tab_ok T__law_next) FL M__law_next
  have bd_15 : Binds K fd15 ["_law_source_here", "_law_many"] [] := D15.bindsN (fun _ _ _ _ _ _ us hl => match us, hl with | [_, _], _ => rfl)
  have g__law_next : GOk P w K mg base (CtOf K w CN CF) 2 "_law_next" (.fn F__law_next) := ⟨_, _, _, He.glo_ok X G (c.fact 15 (f := .glo "_law_next") rfl), fn_15, D15.kp, bd_15⟩
  have T__law_source : ∀ p ∈ t__law_source, GOk P w K mg base (CtOf K w CN CF) 0 p.1 p.2 := by
    unfold t__law_source
    intro p hp; cases hp
  have M__law_source : ∀ m io tb, msOf m__law_source m = some (io, tb) → ∀ q f, tb q = some f → f.io = io ∧ MOk P w K mg base (CtOf K w CN CF) 0 q m f := by
    refine ms_ok ?_
    unfold m__law_source
    intro e he; cases he
  have fn_16 : FnOk P w K mg base CX0 1 _ fd16 ["_law_draw"] (spFn (CtOf K w CN CF) F__law_source) := fn_ok (k := 0) D16 sc__law_source rfl ⟨rfl, rfl⟩ k__law_source rfl (by decide) (tab_ok T__law_source) FL M__law_source
  have bd_16 : Binds K fd16 ["_law_draw"] [] := D16.bindsN (fun _ _ _ _ _ _ us hl => match us, hl with | [_], _ => rfl)
  have g__law_source : GOk P w K mg base (CtOf K w CN CF) 1 "_law_source" (.fn F__law_source) := ⟨_, _, _, He.glo_ok X G (c.fact 16 (f := .glo "_law_source") rfl), fn_16, D16.kp, bd_16⟩
  have T__law_number : ∀ p ∈ t__law_number, GOk P w K mg base (CtOf K w CN CF) 2 p.1 p.2 := by
    unfold t__law_number
    simp only [List.forall_mem_cons, List.not_mem_nil, false_implies, implies_true, and_true]
    exact GOk.mono (by decide) g__law_next
  have M__law_number : ∀ m io tb, msOf m__law_number m = some (io, tb) → ∀ q f, tb q = some f → f.io = io ∧ MOk P w K mg base (CtOf K w CN CF) 2 q m f := by
    refine ms_ok ?_
    unfold m__law_number
    intro e he; cases he
  have fn_17 : FnOk P w K mg base CX0 3 _ fd17 ["_law_source_here"] (spFn (CtOf K w CN CF) F__law_number) := fn_ok (k := 2) D17 sc__law_number rfl ⟨rfl, rfl⟩ k__law_number rfl (by decide) (tab_ok T__law_number) FL M__law_number
  have bd_17 : Binds K fd17 ["_law_source_here"] [] := D17.bindsN (fun _ _ _ _ _ _ us hl => match us, hl with | [_], _ => rfl)
  have g__law_number : GOk P w K mg base (CtOf K w CN CF) 3 "_law_number" (.fn F__law_number) := ⟨_, _, _, He.glo_ok X G (c.fact 17 (f := .glo "_law_number") rfl), fn_17, D17.kp, bd_17⟩
  have T__law_place : ∀ p ∈ t__law_place, GOk P w K mg base (CtOf K w CN CF) 2 p.1 p.2 := by
    unfold t__law_place
    simp only [List.forall_mem_cons, List.not_mem_nil, false_implies, implies_true, and_true]
    exact GOk.mono (by decide) g__law_next
  have M__law_place : ∀ m io tb, msOf m__law_place m = some (io, tb) → ∀ q f, tb q = some f → f.io = io ∧ MOk P w K mg base (CtOf K w CN CF) 2 q m f := by
    refine ms_ok ?_
    unfold m__law_place
    intro e he; cases he
  have fn_18 : FnOk P w K mg base CX0 3 _ fd18 ["_law_source_here"] (spFn (CtOf K w CN CF) F__law_place) := fn_ok (k := 2) D18 sc__law_place rfl ⟨rfl, rfl⟩ k__law_place rfl (by decide) (tab_ok T__law_place) FL M__law_place
  have bd_18 : Binds K fd18 ["_law_source_here"] [] := D18.bindsN (fun _ _ _ _ _ _ us hl => match us, hl with | [_], _ => rfl)
  have g__law_place : GOk P w K mg base (CtOf K w CN CF) 3 "_law_place" (.fn F__law_place) := ⟨_, _, _, He.glo_ok X G (c.fact 18 (f := .glo "_law_place") rfl), fn_18, D18.kp, bd_18⟩
  have T__law_row : ∀ p ∈ t__law_row, GOk P w K mg base (CtOf K w CN CF) 3 p.1 p.2 := by
    unfold t__law_row
    simp only [List.forall_mem_cons, List.not_mem_nil, false_implies, implies_true, and_true]
    exact ⟨GOk.mono (by decide) g__law_next, GOk.mono (by decide) g__law_place, GOk.mono (by decide) g__law_number⟩
  have M__law_row : ∀ m io tb, msOf m__law_row m = some (io, tb) → ∀ q f, tb q = some f → f.io = io ∧ MOk P w K mg base (CtOf K w CN CF) 3 q m f := by
    refine ms_ok ?_
    unfold m__law_row
    intro e he; cases he
  have fn_19 : FnOk P w K mg base CX0 4 _ fd19 ["_law_source_here", "_law_at"] (spFn (CtOf K w CN CF) F__law_row) := fn_ok (k := 3) D19 sc__law_row rfl ⟨rfl, rfl⟩ k__law_row rfl (by decide) (tab_ok T__law_row) FL M__law_row
  have bd_19 : Binds K fd19 ["_law_source_here", "_law_at"] [] := D19.bindsN (fun _ _ _ _ _ _ us hl => match us, hl with | [_, _], _ => rfl)
  have g__law_row : GOk P w K mg base (CtOf K w CN CF) 4 "_law_row" (.fn F__law_row) := ⟨_, _, _, He.glo_ok X G (c.fact 19 (f := .glo "_law_row") rfl), fn_19, D19.kp, bd_19⟩
  have T__law_two : ∀ p ∈ t__law_two, GOk P w K mg base (CtOf K w CN CF) 0 p.1 p.2 := by
    unfold t__law_two
    intro p hp; cases hp
  have M__law_two : ∀ m io tb, msOf m__law_two m = some (io, tb) → ∀ q f, tb q = some f → f.io = io ∧ MOk P w K mg base (CtOf K w CN CF) 0 q m f := by
    refine ms_ok ?_
    unfold m__law_two
    intro e he; cases he
  have fn_20 : FnOk P w K mg base CX0 1 _ fd20 ["_law_number_here"] (spFn (CtOf K w CN CF) F__law_two) := fn_ok (k := 0) D20 sc__law_two rfl ⟨rfl, rfl⟩ k__law_two rfl (by decide) (tab_ok T__law_two) FL M__law_two
  have bd_20 : Binds K fd20 ["_law_number_here"] [] := D20.bindsN (fun _ _ _ _ _ _ us hl => match us, hl with | [_], _ => rfl)
  have g__law_two : GOk P w K mg base (CtOf K w CN CF) 1 "_law_two" (.fn F__law_two) := ⟨_, _, _, He.glo_ok X G (c.fact 20 (f := .glo "_law_two") rfl), fn_20, D20.kp, bd_20⟩
  have T__law_four : ∀ p ∈ t__law_four, GOk P w K mg base (CtOf K w CN CF) 1 p.1 p.2 := by
    unfold t__law_four
    simp only [List.forall_mem_cons, List.not_mem_nil, false_implies, implies_true, and_true]
    exact GOk.mono (by decide) g__law_two
  have M__law_four : ∀ m io tb, msOf m__law_four m = some (io, tb) → ∀ q f, tb q = some f → f.io = io ∧ MOk P w K mg base (CtOf K w CN CF) 1 q m f := by
    refine ms_ok ?_
    unfold m__law_four
    intro e he; cases he
  have fn_21 : FnOk P w K mg base CX0 2 _ fd21 ["_law_number_here"] (spFn (CtOf K w CN CF) F__law_four) := fn_ok (k := 1) D21 sc__law_four rfl ⟨rfl, rfl⟩ k__law_four rfl (by decide) (tab_ok T__law_four) FL M__law_four
  have bd_21 : Binds K fd21 ["_law_number_here"] [] := D21.bindsN (fun _ _ _ _ _ _ us hl => match us, hl with | [_], _ => rfl)
  have g__law_four : GOk P w K mg base (CtOf K w CN CF) 2 "_law_four" (.fn F__law_four) := ⟨_, _, _, He.glo_ok X G (c.fact 21 (f := .glo "_law_four") rfl), fn_21, D21.kp, bd_21⟩
  have T__law_cells : ∀ p ∈ t__law_cells, GOk P w K mg base (CtOf K w CN CF) 2 p.1 p.2 := by
    unfold t__law_cells
    simp only [List.forall_mem_cons, List.not_mem_nil, false_implies, implies_true, and_true]
    exact ⟨GOk.mono (by decide) g__law_two, GOk.mono (by decide) g__law_four⟩
  have M__law_cells : ∀ m io tb, msOf m__law_cells m = some (io, tb) → ∀ q f, tb q = some f → f.io = io ∧ MOk P w K mg base (CtOf K w CN CF) 2 q m f := by
    refine ms_ok ?_
    unfold m__law_cells
    intro e he; cases he
  have fn_22 : FnOk P w K mg base CX0 3 _ fd22 ["_law_row_here", "_law_at", "_law_near"] (spFn (CtOf K w CN CF) F__law_cells) := fn_ok (k := 2) D22 sc__law_cells rfl ⟨rfl, rfl⟩ k__law_cells rfl (by decide) (tab_ok T__law_cells) FL M__law_cells
  have bd_22 : Binds K fd22 ["_law_row_here", "_law_at", "_law_near"] [] := D22.bindsN (fun _ _ _ _ _ _ us hl => match us, hl with | [_, _, _], _ => rfl)
  have g__law_cells : GOk P w K mg base (CtOf K w CN CF) 3 "_law_cells" (.fn F__law_cells) := ⟨_, _, _, He.glo_ok X G (c.fact 22 (f := .glo "_law_cells") rfl), fn_22, D22.kp, bd_22⟩
  have T__law_told : ∀ p ∈ t__law_told, GOk P w K mg base (CtOf K w CN CF) 0 p.1 p.2 := by
    unfold t__law_told
    simp only [List.forall_mem_cons, List.not_mem_nil, false_implies, implies_true, and_true]
    exact ⟨He.free_ok X G (c.fact 31 (f := .free "len") rfl), He.free_ok X G (c.fact 35 (f := .free "isinstance") rfl), He.free_ok X G (c.fact 36 (f := .free "tuple") rfl)⟩
  have M__law_told : ∀ m io tb, msOf m__law_told m = some (io, tb) → ∀ q f, tb q = some f → f.io = io ∧ MOk P w K mg base (CtOf K w CN CF) 0 q m f := by
    refine ms_ok ?_
    unfold m__law_told
    intro e he; cases he
  have fn_23 : FnOk P w K mg base CX0 1 _ fd23 ["_law_found", "_law_many"] (spFn (CtOf K w CN CF) F__law_told) := fn_ok (k := 0) D23 sc__law_told rfl ⟨rfl, rfl⟩ k__law_told rfl (by decide) (tab_ok T__law_told) FL M__law_told
  have bd_23 : Binds K fd23 ["_law_found", "_law_many"] [] := D23.bindsN (fun _ _ _ _ _ _ us hl => match us, hl with | [_, _], _ => rfl)
  have g__law_told : GOk P w K mg base (CtOf K w CN CF) 1 "_law_told" (.fn F__law_told) := ⟨_, _, _, He.glo_ok X G (c.fact 23 (f := .glo "_law_told") rfl), fn_23, D23.kp, bd_23⟩
  have T__law_all_read : ∀ p ∈ t__law_all_read, GOk P w K mg base (CtOf K w CN CF) 3 p.1 p.2 := by
    unfold t__law_all_read
    simp only [List.forall_mem_cons, List.not_mem_nil, false_implies, implies_true, and_true]
    exact ⟨GOk.mono (by decide) g_cells_of, He.free_ok X G (c.fact 35 (f := .free "isinstance") rfl), He.free_ok X G (c.fact 37 (f := .free "list") rfl), GOk.mono (by decide) g__law_told, GOk.mono (by decide) g_read_numbers, GOk.mono (by decide) g_read_table, He.free_ok X G (c.fact 36 (f := .free "tuple") rfl), He.free_ok X G (c.fact 38 (f := .free "bool") rfl), GOk.mono (by decide) g_read_code⟩
  have M__law_all_read : ∀ m io tb, msOf m__law_all_read m = some (io, tb) → ∀ q f, tb q = some f → f.io = io ∧ MOk P w K mg base (CtOf K w CN CF) 3 q m f := by
    refine ms_ok ?_
    unfold m__law_all_read
    intro e he; cases he
  have fn_24 : FnOk P w K mg base CX0 4 _ fd24 ["_law_cells_here", "_law_laid_rows"] (spFn (CtOf K w CN CF) F__law_all_read) := fn_ok (k := 3) D24 sc__law_all_read rfl ⟨rfl, rfl⟩ k__law_all_read rfl (by decide) (tab_ok T__law_all_read) FL M__law_all_read
  have bd_24 : Binds K fd24 ["_law_cells_here", "_law_laid_rows"] [] := D24.bindsN (fun _ _ _ _ _ _ us hl => match us, hl with | [_, _], _ => rfl)
  have g__law_all_read : GOk P w K mg base (CtOf K w CN CF) 4 "_law_all_read" (.fn F__law_all_read) := ⟨_, _, _, He.glo_ok X G (c.fact 24 (f := .glo "_law_all_read") rfl), fn_24, D24.kp, bd_24⟩
  have T_law : ∀ p ∈ t_law, GOk P w K mg base (CtOf K w CN CF) 4 p.1 p.2 := by
    unfold t_law
    simp only [List.forall_mem_cons, List.not_mem_nil, false_implies, implies_true, and_true]
    exact ⟨GOk.mono (by decide) g__law_all_read, GOk.mono (by decide) g__law_next, He.free_ok X G (c.fact 34 (f := .free "range") rfl), He.free_ok X G (c.fact 31 (f := .free "len") rfl), GOk.mono (by decide) g_cells_of, He.free_ok X G (c.fact 37 (f := .free "list") rfl), GOk.mono (by decide) g__law_number, GOk.mono (by decide) g__law_cells, GOk.mono (by decide) g__law_row, GOk.mono (by decide) g__law_source⟩
  have M_law : ∀ m io tb, msOf m_law m = some (io, tb) → ∀ q f, tb q = some f → f.io = io ∧ MOk P w K mg base (CtOf K w CN CF) 4 q m f := by
    refine ms_ok ?_
    unfold m_law
    intro e he; cases he
  exact fn_ok (k := 4) D25 sc_law rfl ⟨rfl, rfl⟩ k_law rfl (by decide) (tab_ok T_law) FL M_law
end FL

namespace FL
open PySem L2 FJ
def Src (n : Nat) (t : T) : Prop := ∃ a p c d : Int, t = .ow (.lst [.int a, .int p, .int c, .int d]) ∧ 0 ≤ c ∧ c ≤ n
theorem Src.mono {n m : Nat} {t : T} (h : n ≤ m) (s : Src n t) : Src m t := by
  obtain ⟨a, p, c, d, e, h1, h2⟩ := s
  exact ⟨a, p, c, d, e, h1, by omega⟩
theorem mixed_run (c k : Int) (h0 : 0 ≤ k) (h1 : k ≤ 1000000) : ∃ m : Int, F__law_mixed.run [.fr (.int c), .fr (.int k)] = some (.fr (.int m), [some (.fr (.int c)), some (.fr (.int k))]) := by
  have h0 : ∀ x : Int, 0 ≤ x % 2147483629 ∧ x % 2147483629 < 2147483629 := fun x => ⟨Int.emod_nonneg _ (by decide), Int.emod_lt_of_pos _ (by decide)⟩
  have m0 : mulOk 69621 k = true := by unfold mulOk; rw [Bool.or_eq_true, decide_eq_true_eq]; left; omega
  have m00 : mulOk 2 k = true := by unfold mulOk; rw [Bool.or_eq_true, decide_eq_true_eq]; left; omega
  have m01 : mulOk (c % 2147483629 + 69621 * k + 1) (48271 + 2 * k) = true := by
    unfold mulOk; rw [Bool.or_eq_true, decide_eq_true_eq, decide_eq_true_eq]; right; omega
  generalize hn : (c % 2147483629 + 69621 * k + 1) * (48271 + 2 * k) % 2147483629 = n
  have hn1 := h0 ((c % 2147483629 + 69621 * k + 1) * (48271 + 2 * k))
  rw [hn] at hn1
  have m1 : mulOk n (n / 1009 + 69621) = true := by
    unfold mulOk; rw [Bool.or_eq_true, decide_eq_true_eq]; left; omega
  generalize hm : n * (n / 1009 + 69621) % 2147483629 = m
  have hm1 := h0 (n * (n / 1009 + 69621))
  rw [hm] at hm1
  have m2 : mulOk m (m / 907 + 16807 + k) = true := by
    unfold mulOk; rw [Bool.or_eq_true, decide_eq_true_eq]; left; omega
  obtain ⟨t, rp, h1, h2, h3⟩ := run_by (n := 3) (io := [false, false]) (b := b__law_mixed) (ts := [.fr (.int c), .fr (.int k)])
    (Q := fun t rp => t = .fr (.int (m * (m / 907 + 16807 + k) % 2147483629)) ∧ rp = [some (.fr (.int c)), some (.fr (.int k))]) rfl (by
    have d1 : divOk 1009 = true := by decide
    have d2 : divOk 907 = true := by decide
    simp [b__law_mixed, binD, m0, m00, m01, hn, m1, hm, m2, d1, d2])
  exact ⟨_, by rw [← h2, ← h3]; exact h1⟩
theorem next_run {n : Nat} {t : T} {many : Int} (s : Src n t) (hn : n ≤ 999999) (h0 : 0 < many) (h1 : divOk many = true) : ∃ v t', F__law_next.run [t, .fr (.int many)] = some (.fr (.int v), [some t', some (.fr (.int many))]) ∧ 0 ≤ v ∧ v < many ∧ Src (n + 1) t' := by
  obtain ⟨a, p, c, d, rfl, hc0, hc1⟩ := s
  have r0 : ∀ x : Int, 0 ≤ x % many := fun x => Int.emod_nonneg _ (by omega)
  have r1 : ∀ x : Int, x % many < many := fun x => Int.emod_lt_of_pos _ h0
  have i0 : ∀ w x y z : D, at_ [w, x, y, z] 0 = some w := fun _ _ _ _ => rfl
  have i1 : ∀ w x y z : D, at_ [w, x, y, z] 1 = some x := fun _ _ _ _ => rfl
  have i2 : ∀ w x y z : D, at_ [w, x, y, z] 2 = some y := fun _ _ _ _ => rfl
  have i3 : ∀ w x y z : D, at_ [w, x, y, z] 3 = some z := fun _ _ _ _ => rfl
  have x0 : ixI 4 0 = some 0 := rfl
  have x2 : ixI 4 2 = some 2 := rfl
  obtain ⟨m, hm⟩ := mixed_run d (c + 1) (by omega) (by omega)
  obtain ⟨t, rp, g1, v, t', rfl, rfl, g2, g3, g4⟩ := run_by (n := 3) (io := [true, false]) (b := b__law_next) (ts := [.ow (.lst [.int a, .int p, .int c, .int d]), .fr (.int many)])
    (Q := fun t rp => ∃ v t', t = .fr (.int v) ∧ rp = [some t', some (.fr (.int many))] ∧ 0 ≤ v ∧ v < many ∧ Src (n + 1) t') rfl (by
    by_cases hp : p = 0 ∧ 1 < a
    · obtain ⟨hp1, hp2⟩ := hp
      simp [b__law_next, E.pu, Es.pu, Ar.pu, binD, cmpD, idxD, i0, i1, hp1, hp2, h0, h1, evS_seti, setD, x0]
      exact ⟨r0 _, r1 _, _, _, _, _, rfl, hc0, by omega⟩
    · have hh : p = 0 → ¬ 1 < a := fun h1 h2 => hp ⟨h1, h2⟩
      simp [b__law_next, E.pu, Es.pu, Ar.pu, binD, cmpD, idxD, i0, i1, h0, evS_seti, setD, x2]
      by_cases hp1 : p = 0
      · have := hh hp1
        simp [b__law_next, E.pu, Es.pu, Ar.pu, binD, cmpD, idxD, i0, i1, i2, i3, hp1, this, h0, evS_seti, setD, x2, hm]
        exact ⟨r0 _, r1 _, _, _, _, _, rfl, by omega, by omega⟩
      · simp [b__law_next, E.pu, Es.pu, Ar.pu, binD, cmpD, idxD, i0, i1, i2, i3, hp1, h0, evS_seti, setD, x2, hm]
        exact ⟨r0 _, r1 _, _, _, _, _, rfl, by omega, by omega⟩)
  exact ⟨v, t', g1, g2, g3, g4⟩
end FL
namespace FL
open PySem L2 FJ
theorem line_big : 100 ≤ sizeLine := by decide +kernel
theorem at_ok {α : Type} {l : List α} {v : Int} (h0 : 0 ≤ v) (h1 : v < l.length) : ∃ w ∈ l, at_ l v = some w := by
  obtain ⟨k, rfl⟩ := Int.eq_ofNat_of_zero_le h0
  have hk : k < l.length := by omega
  refine ⟨l[k], List.getElem_mem hk, ?_⟩
  have : ixN l.length (k : Int) = some k := by
    unfold ixN
    simp; omega
  show atI l k = _
  unfold atI
  rw [this]
  simp [hk]
theorem number_run {n : Nat} {t : T} (s : Src n t) (hn : n ≤ 999900) : ∃ v t', F__law_number.run [t] = some (.fr (.int v), [some t']) ∧ -2147483648 ≤ v ∧ v < 2147483648 ∧ Src (n + 2) t' := by
  have d4 : divOk 4 = true := by decide
  have d600 : divOk 600 = true := by decide
  have d8 : divOk 8 = true := by decide
  have d32 : divOk 4294967296 = true := by decide
  obtain ⟨v1, t1, e1, a1, b1, s1⟩ := next_run (many := 4) s (by omega) (by decide) d4
  obtain ⟨v2, t2, e2, a2, b2, s2⟩ := next_run (many := 600) s1 (by omega) (by decide) d600
  obtain ⟨v3, t3, e3, a3, b3, s3⟩ := next_run (many := 8) s1 (by omega) (by decide) d8
  obtain ⟨v4, t4, e4, a4, b4, s4⟩ := next_run (many := 4294967296) s1 (by omega) (by decide) d32
  obtain ⟨w, hw, ha⟩ := at_ok (l := [D.int 0, D.int (-1), D.int 2147483647, D.int (-2147483648), D.int 65536, D.int 255, D.int 256, D.int (-256)]) a3 (by simpa using b3)
  have big := line_big
  have l8 : 8 ≤ sizeLine := by omega
  obtain ⟨w, rfl, w0, w1⟩ : ∃ i, w = D.int i ∧ -2147483648 ≤ i ∧ i < 2147483648 := by
    simp only [List.mem_cons, List.not_mem_nil, or_false] at hw
    rcases hw with rfl | rfl | rfl | rfl | rfl | rfl | rfl | rfl <;> exact ⟨_, rfl, by decide, by decide⟩
  obtain ⟨t, rp, g1, v, t', rfl, rfl, g2, g3, g4⟩ := run_by (n := 2) (io := [true]) (b := b__law_number) (ts := [t])
    (Q := fun t rp => ∃ v t', t = .fr (.int v) ∧ rp = [some t'] ∧ -2147483648 ≤ v ∧ v < 2147483648 ∧ Src (n + 2) t') rfl (by
    by_cases h0 : v1 = 0
    · subst h0
      simp [b__law_number, E.pu, Es.pu, Ar.pu, binD, cmpD, e1, e2]
      exact ⟨by omega, by omega, s2⟩
    · by_cases h1 : v1 = 1
      · subst h1
        simp [b__law_number, E.pu, Es.pu, Ar.pu, binD, cmpD, idxD, e1, e3, l8, ha]
        exact ⟨w0, w1, s3⟩
      · simp [b__law_number, E.pu, Es.pu, Ar.pu, binD, cmpD, e1, e4, h0, h1]
        exact ⟨by omega, by omega, s4⟩)
  exact ⟨v, t', g1, g2, g3, g4⟩
theorem place_run {n : Nat} {t : T} (s : Src n t) (hn : n ≤ 999900) : ∃ v t', F__law_place.run [t] = some (.fr (.int v), [some t']) ∧ 0 ≤ v ∧ v < 65536 ∧ Src (n + 2) t' := by
  have d3 : divOk 3 = true := by decide
  have d6 : divOk 6 = true := by decide
  have d16 : divOk 65536 = true := by decide
  obtain ⟨v1, t1, e1, a1, b1, s1⟩ := next_run (many := 3) s (by omega) (by decide) d3
  obtain ⟨v2, t2, e2, a2, b2, s2⟩ := next_run (many := 6) s1 (by omega) (by decide) d6
  obtain ⟨v3, t3, e3, a3, b3, s3⟩ := next_run (many := 65536) s1 (by omega) (by decide) d16
  obtain ⟨w, hw, ha⟩ := at_ok (l := [D.int 0, D.int 1, D.int 255, D.int 256, D.int 65535, D.int 65280]) a2 (by simpa using b2)
  have big := line_big
  have l6 : 6 ≤ sizeLine := by omega
  obtain ⟨w, rfl, w0, w1⟩ : ∃ i, w = D.int i ∧ 0 ≤ i ∧ i < 65536 := by
    simp only [List.mem_cons, List.not_mem_nil, or_false] at hw
    rcases hw with rfl | rfl | rfl | rfl | rfl | rfl <;> exact ⟨_, rfl, by decide, by decide⟩
  obtain ⟨t, rp, g1, v, t', rfl, rfl, g2⟩ := run_by (n := 1) (io := [true]) (b := b__law_place) (ts := [t])
    (Q := fun t rp => ∃ v t', t = .fr (.int v) ∧ rp = [some t'] ∧ 0 ≤ v ∧ v < 65536 ∧ Src (n + 2) t') rfl (by
    by_cases h0 : v1 = 0
    · subst h0
      simp [b__law_place, E.pu, Es.pu, Ar.pu, binD, cmpD, idxD, e1, e2, l6, ha]
      exact ⟨w0, w1, s2⟩
    · simp [b__law_place, E.pu, Es.pu, Ar.pu, binD, cmpD, e1, e3, h0]
      exact ⟨a3, b3, s3⟩)
  exact ⟨v, t', g1, g2⟩
theorem source_run (x : Int) : ∃ t', F__law_source.run [.fr (.int x)] = some (t', [some (.fr (.int x))]) ∧ Src 0 t' := by
  have d2 : divOk 2 = true := by decide
  have big := line_big
  have l4 : 4 ≤ sizeLine := by omega
  obtain ⟨t, rp, g1, g2, g3⟩ := run_by (n := 1) (io := [false]) (b := b__law_source) (ts := [.fr (.int x)])
    (Q := fun t rp => t = .ow (.lst [.int (x / 2), .int (x % 2), .int 0, .int x]) ∧ rp = [some (.fr (.int x))]) rfl (by
    simp [b__law_source, binD, d2, l4])
  exact ⟨_, by rw [← g3]; exact g1, _, _, _, _, g2, by decide, by decide⟩
def two (x : Int) : List Int := [x / 256, x % 256]
def four (x : Int) : List Int := two (x % 4294967296 / 65536) ++ two (x % 4294967296 % 65536)
def intL (l : List Int) : D := .lst (l.map .int)
def Cell (l : List Int) : Prop := ∀ i ∈ l, 0 ≤ i ∧ i < 256
theorem two_run (x : Int) : F_two_cells.run [.fr (.int x)] = some (.ow (intL (two x)), [some (.fr (.int x))]) := by
  have d2 : divOk 256 = true := by decide
  have big := line_big
  have l4 : 2 ≤ sizeLine := by omega
  obtain ⟨t, rp, g1, g2, g3⟩ := run_by (n := 1) (io := [false]) (b := b_two_cells) (ts := [.fr (.int x)])
    (Q := fun t rp => t = .ow (intL (two x)) ∧ rp = [some (.fr (.int x))]) rfl (by
    simp [b_two_cells, binD, d2, l4, intL, two])
  rw [← g2, ← g3]; exact g1
theorem ltwo_run (x : Int) : F__law_two.run [.fr (.int x)] = some (.ow (intL (two x)), [some (.fr (.int x))]) := by
  have d2 : divOk 256 = true := by decide
  have big := line_big
  have l4 : 2 ≤ sizeLine := by omega
  obtain ⟨t, rp, g1, g2, g3⟩ := run_by (n := 1) (io := [false]) (b := b__law_two) (ts := [.fr (.int x)])
    (Q := fun t rp => t = .ow (intL (two x)) ∧ rp = [some (.fr (.int x))]) rfl (by
    simp [b__law_two, binD, d2, l4, intL, two])
  rw [← g2, ← g3]; exact g1
theorem add_ints (a b : List Int) (h : a.length + b.length ≤ sizeLine) : binD .add (intL a) (intL b) = some (.ow (intL (a ++ b))) := by
  simp [binD, intL, h]
theorem four_run (x : Int) : F_four_cells.run [.fr (.int x)] = some (.ow (intL (four x)), [some (.fr (.int (x % 4294967296)))]) := by
  have d2 : divOk 65536 = true := by decide
  have big := line_big
  have l4 : 4 ≤ sizeLine := by omega
  obtain ⟨t, rp, g1, g2, g3⟩ := run_by (n := 1) (io := [false]) (b := b_four_cells) (ts := [.fr (.int x)])
    (Q := fun t rp => t = .ow (intL (four x)) ∧ rp = [some (.fr (.int (x % 4294967296)))]) rfl (by
    simp [b_four_cells, E.pu, Ar.pu, binD, d2, l4, two_run]
    simp [intL, two, four, l4])
  rw [← g2, ← g3]; exact g1
theorem lfour_run (x : Int) : F__law_four.run [.fr (.int x)] = some (.ow (intL (four x)), [some (.fr (.int (x % 4294967296)))]) := by
  have d2 : divOk 65536 = true := by decide
  have big := line_big
  have l4 : 4 ≤ sizeLine := by omega
  obtain ⟨t, rp, g1, g2, g3⟩ := run_by (n := 1) (io := [false]) (b := b__law_four) (ts := [.fr (.int x)])
    (Q := fun t rp => t = .ow (intL (four x)) ∧ rp = [some (.fr (.int (x % 4294967296)))]) rfl (by
    simp [b__law_four, E.pu, Ar.pu, binD, d2, l4, ltwo_run]
    simp [intL, two, four, l4])
  rw [← g2, ← g3]; exact g1
theorem cell_two {x : Int} (h0 : 0 ≤ x) (h1 : x < 65536) : Cell (two x) := by
  intro i hi
  simp [two] at hi
  omega
theorem cell_four (x : Int) : Cell (four x) := by
  intro i hi
  simp [four, two] at hi
  omega
theorem cell_app {a b : List Int} (h1 : Cell a) (h2 : Cell b) : Cell (a ++ b) := by
  intro i hi
  rcases List.mem_append.mp hi with h | h
  · exact h1 i h
  · exact h2 i h
theorem plain_ints (l : List Int) : ∀ n, D.plains n (l.map .int) = true := by
  induction l with
  | nil => intro n; simp [D.plains]
  | cons a l ih => intro n; simp [D.plains, D.plain, ih]
theorem eqv_refl_ints (l : List Int) : PyData.eqvAll (D.pys (l.map .int)) (D.pys (l.map .int)) = true := by
  exact eqv_selfs 0 _ (plain_ints l 0)
theorem cmp_ints (l : List Int) : ∀ n, cmpbles n (l.map .int) (l.map .int) = true := by
  induction l with
  | nil => intro n; simp [cmpbles]
  | cons a l ih => intro n; cases n <;> simp [cmpbles, cmpble, D.plain, ih]
theorem eqD_ints (l : List Int) : eqD (intL l) (intL l) = some true := by
  simp [eqD, intL, cmpble, cmp_ints, D.py, PyData.eqv, eqv_refl_ints]
theorem eqD_ints2 (l m : List Int) : eqD (.tup [intL l, intL m]) (.tup [intL l, intL m]) = some true := by
  simp [eqD, intL, cmpble, cmpbles, cmp_ints, D.py, D.pys, PyData.eqv, PyData.eqvAll, eqv_refl_ints]
theorem bls_true {α : Type} : ∀ l : List α, blsOf (l.map fun _ => .bl true) = some (l.map fun _ => true)
  | [] => rfl
  | _ :: l => by simp only [List.map_cons, blsOf, bls_true l, Option.map_some]
end FL
namespace FL
open PySem L2 FJ
theorem ofS_inj {a b : String} : (Str.ofString a = Str.ofString b) = (a = b) := by
  apply propext
  constructor
  · intro h
    rw [PySem.Str.ofString_eq_toList, PySem.Str.ofString_eq_toList] at h
    have h1 : (a.toList.map Char.toNat) = (b.toList.map Char.toNat) := by
      have := congrArg (fun z : Str => z.cps.toList) h
      simpa using this
    have h2 : a.toList = b.toList := by
      have inj : ∀ x y : Char, x.toNat = y.toNat → x = y := fun x y e => Char.ext (UInt32.toNat_inj.mp e)
      exact (List.map_inj_right (fun x y e => inj x y e)).mp h1
    exact String.toList_inj.mp h2
  · rintro rfl; rfl
theorem ofS_beq {a b : String} : (Str.ofString a == Str.ofString b) = (a == b) := by
  rw [Bool.eq_iff_iff, beq_iff_eq, beq_iff_eq, ofS_inj]
theorem first_set (b v : Int) : F_first_cell.run [.fr (.tup [.str "set", .int b, .int v]), .fr .non] = some (.fr (.int (16 + b)), [some (.fr (.tup [.str "set", .int b, .int v])), some (.fr .non)]) := by
  obtain ⟨t, rp, g1, g2, g3⟩ := run_by (n := 5) (io := [false, false]) (b := b_first_cell) (ts := [.fr (.tup [.str "set", .int b, .int v]), .fr .non])
    (Q := fun t rp => t = .fr (.int (16 + b)) ∧ rp = [some (.fr (.tup [.str "set", .int b, .int v])), some (.fr .non)]) rfl (by
    simp [b_first_cell, E.pu, Es.pu, Ar.pu, It.pu, Oe.pu, binD, cmpD, idxD, biD, mtD, inD, atomD, keyOf, look2, mulOk, at_, atI, ixN, ofS_inj, ofS_beq, D.plain, D.plains, D.py, PyData.eqv, evS_aug, truD])
  rw [← g2, ← g3]; exact g1
theorem cells_set (b v at' : Int) : F_cells_of.run [.fr (.tup [.str "set", .int b, .int v]), .fr (.int at'), .fr .non] = some (.ow (intL ([16 + b] ++ four v)), [some (.fr (.tup [.str "set", .int b, .int v])), some (.fr (.int at')), some (.fr .non)]) := by
  have big := line_big
  have l1 : 1 ≤ sizeLine := by omega
  have l2 : 2 ≤ sizeLine := by omega
  have l3 : 3 ≤ sizeLine := by omega
  have l5 : 5 ≤ sizeLine := by omega
  obtain ⟨t, rp, g1, g2, g3⟩ := run_by (n := 7) (io := [false, false, false]) (b := b_cells_of) (ts := [.fr (.tup [.str "set", .int b, .int v]), .fr (.int at'), .fr .non])
    (Q := fun t rp => t = .ow (intL ([16 + b] ++ four v)) ∧ rp = [some (.fr (.tup [.str "set", .int b, .int v])), some (.fr (.int at')), some (.fr .non)]) rfl (by
    simp [b_cells_of, E.pu, Es.pu, Ar.pu, It.pu, Oe.pu, binD, cmpD, idxD, biD, mtD, inD, atomD, keyOf, look2, mulOk, at_, atI, ixN, ofS_inj, ofS_beq, D.plain, D.plains, D.py, PyData.eqv, evS_aug, truD, first_set, two_run, four_run, intL, two, four, l1, l2, l3, l5])
  rw [← g2, ← g3]; exact g1
theorem lcells_set (b v at' : Int) : F__law_cells.run [.fr (.tup [.str "set", .int b, .int v]), .fr (.int at'), .fr .non] = some (.ow (intL ([16 + b] ++ four v)), [some (.fr (.tup [.str "set", .int b, .int v])), some (.fr (.int at')), some (.fr .non)]) := by
  have big := line_big
  have l1 : 1 ≤ sizeLine := by omega
  have l2 : 2 ≤ sizeLine := by omega
  have l3 : 3 ≤ sizeLine := by omega
  have l5 : 5 ≤ sizeLine := by omega
  have ar : 16 + b = 16 + b := by omega
  obtain ⟨t, rp, g1, g2, g3⟩ := run_by (n := 6) (io := [false, false, false]) (b := b__law_cells) (ts := [.fr (.tup [.str "set", .int b, .int v]), .fr (.int at'), .fr .non])
    (Q := fun t rp => t = .ow (intL ([16 + b] ++ four v)) ∧ rp = [some (.fr (.tup [.str "set", .int b, .int v])), some (.fr (.int at')), some (.fr .non)]) rfl (by
    simp [b__law_cells, E.pu, Es.pu, Ar.pu, It.pu, Oe.pu, binD, cmpD, idxD, biD, mtD, inD, atomD, keyOf, look2, mulOk, at_, atI, ixN, ofS_inj, ofS_beq, D.plain, D.plains, D.py, PyData.eqv, evS_aug, truD, ltwo_run, lfour_run, intL, two, four, l1, l2, l3, l5])
  try rw [ar] at g2
  rw [← g2, ← g3]; exact g1
theorem first_add (b c : Int) : F_first_cell.run [.fr (.tup [.str "add", .int b, .int c]), .fr .non] = some (.fr (.int (32 + (4 * b + c))), [some (.fr (.tup [.str "add", .int b, .int c])), some (.fr .non)]) := by
  obtain ⟨t, rp, g1, g2, g3⟩ := run_by (n := 5) (io := [false, false]) (b := b_first_cell) (ts := [.fr (.tup [.str "add", .int b, .int c]), .fr .non])
    (Q := fun t rp => t = .fr (.int (32 + (4 * b + c))) ∧ rp = [some (.fr (.tup [.str "add", .int b, .int c])), some (.fr .non)]) rfl (by
    simp [b_first_cell, E.pu, Es.pu, Ar.pu, It.pu, Oe.pu, binD, cmpD, idxD, biD, mtD, inD, atomD, keyOf, look2, mulOk, at_, atI, ixN, ofS_inj, ofS_beq, D.plain, D.plains, D.py, PyData.eqv, evS_aug, truD])
  rw [← g2, ← g3]; exact g1
theorem cells_add (b c at' : Int) : F_cells_of.run [.fr (.tup [.str "add", .int b, .int c]), .fr (.int at'), .fr .non] = some (.ow (intL ([32 + (4 * b + c)])), [some (.fr (.tup [.str "add", .int b, .int c])), some (.fr (.int at')), some (.fr .non)]) := by
  have big := line_big
  have l1 : 1 ≤ sizeLine := by omega
  have l2 : 2 ≤ sizeLine := by omega
  have l3 : 3 ≤ sizeLine := by omega
  have l5 : 5 ≤ sizeLine := by omega
  obtain ⟨t, rp, g1, g2, g3⟩ := run_by (n := 7) (io := [false, false, false]) (b := b_cells_of) (ts := [.fr (.tup [.str "add", .int b, .int c]), .fr (.int at'), .fr .non])
    (Q := fun t rp => t = .ow (intL ([32 + (4 * b + c)])) ∧ rp = [some (.fr (.tup [.str "add", .int b, .int c])), some (.fr (.int at')), some (.fr .non)]) rfl (by
    simp [b_cells_of, E.pu, Es.pu, Ar.pu, It.pu, Oe.pu, binD, cmpD, idxD, biD, mtD, inD, atomD, keyOf, look2, mulOk, at_, atI, ixN, ofS_inj, ofS_beq, D.plain, D.plains, D.py, PyData.eqv, evS_aug, truD, first_add, two_run, four_run, intL, two, four, l1, l2, l3, l5])
  rw [← g2, ← g3]; exact g1
theorem lcells_add (b c at' : Int) : F__law_cells.run [.fr (.tup [.str "add", .int b, .int c]), .fr (.int at'), .fr .non] = some (.ow (intL ([32 + (4 * b + c)])), [some (.fr (.tup [.str "add", .int b, .int c])), some (.fr (.int at')), some (.fr .non)]) := by
  have big := line_big
  have l1 : 1 ≤ sizeLine := by omega
  have l2 : 2 ≤ sizeLine := by omega
  have l3 : 3 ≤ sizeLine := by omega
  have l5 : 5 ≤ sizeLine := by omega
  have ar : 32 + 4 * b + c = 32 + (4 * b + c) := by omega
  obtain ⟨t, rp, g1, g2, g3⟩ := run_by (n := 6) (io := [false, false, false]) (b := b__law_cells) (ts := [.fr (.tup [.str "add", .int b, .int c]), .fr (.int at'), .fr .non])
    (Q := fun t rp => t = .ow (intL ([32 + 4 * b + c])) ∧ rp = [some (.fr (.tup [.str "add", .int b, .int c])), some (.fr (.int at')), some (.fr .non)]) rfl (by
    simp [b__law_cells, E.pu, Es.pu, Ar.pu, It.pu, Oe.pu, binD, cmpD, idxD, biD, mtD, inD, atomD, keyOf, look2, mulOk, at_, atI, ixN, ofS_inj, ofS_beq, D.plain, D.plains, D.py, PyData.eqv, evS_aug, truD, ltwo_run, lfour_run, intL, two, four, l1, l2, l3, l5])
  try rw [ar] at g2
  rw [← g2, ← g3]; exact g1
theorem first_take (b c : Int) : F_first_cell.run [.fr (.tup [.str "take", .int b, .int c]), .fr .non] = some (.fr (.int (48 + (4 * b + c))), [some (.fr (.tup [.str "take", .int b, .int c])), some (.fr .non)]) := by
  obtain ⟨t, rp, g1, g2, g3⟩ := run_by (n := 5) (io := [false, false]) (b := b_first_cell) (ts := [.fr (.tup [.str "take", .int b, .int c]), .fr .non])
    (Q := fun t rp => t = .fr (.int (48 + (4 * b + c))) ∧ rp = [some (.fr (.tup [.str "take", .int b, .int c])), some (.fr .non)]) rfl (by
    simp [b_first_cell, E.pu, Es.pu, Ar.pu, It.pu, Oe.pu, binD, cmpD, idxD, biD, mtD, inD, atomD, keyOf, look2, mulOk, at_, atI, ixN, ofS_inj, ofS_beq, D.plain, D.plains, D.py, PyData.eqv, evS_aug, truD])
  rw [← g2, ← g3]; exact g1
theorem cells_take (b c at' : Int) : F_cells_of.run [.fr (.tup [.str "take", .int b, .int c]), .fr (.int at'), .fr .non] = some (.ow (intL ([48 + (4 * b + c)])), [some (.fr (.tup [.str "take", .int b, .int c])), some (.fr (.int at')), some (.fr .non)]) := by
  have big := line_big
  have l1 : 1 ≤ sizeLine := by omega
  have l2 : 2 ≤ sizeLine := by omega
  have l3 : 3 ≤ sizeLine := by omega
  have l5 : 5 ≤ sizeLine := by omega
  obtain ⟨t, rp, g1, g2, g3⟩ := run_by (n := 7) (io := [false, false, false]) (b := b_cells_of) (ts := [.fr (.tup [.str "take", .int b, .int c]), .fr (.int at'), .fr .non])
    (Q := fun t rp => t = .ow (intL ([48 + (4 * b + c)])) ∧ rp = [some (.fr (.tup [.str "take", .int b, .int c])), some (.fr (.int at')), some (.fr .non)]) rfl (by
    simp [b_cells_of, E.pu, Es.pu, Ar.pu, It.pu, Oe.pu, binD, cmpD, idxD, biD, mtD, inD, atomD, keyOf, look2, mulOk, at_, atI, ixN, ofS_inj, ofS_beq, D.plain, D.plains, D.py, PyData.eqv, evS_aug, truD, first_take, two_run, four_run, intL, two, four, l1, l2, l3, l5])
  rw [← g2, ← g3]; exact g1
theorem lcells_take (b c at' : Int) : F__law_cells.run [.fr (.tup [.str "take", .int b, .int c]), .fr (.int at'), .fr .non] = some (.ow (intL ([48 + (4 * b + c)])), [some (.fr (.tup [.str "take", .int b, .int c])), some (.fr (.int at')), some (.fr .non)]) := by
  have big := line_big
  have l1 : 1 ≤ sizeLine := by omega
  have l2 : 2 ≤ sizeLine := by omega
  have l3 : 3 ≤ sizeLine := by omega
  have l5 : 5 ≤ sizeLine := by omega
  have ar : 48 + 4 * b + c = 48 + (4 * b + c) := by omega
  obtain ⟨t, rp, g1, g2, g3⟩ := run_by (n := 6) (io := [false, false, false]) (b := b__law_cells) (ts := [.fr (.tup [.str "take", .int b, .int c]), .fr (.int at'), .fr .non])
    (Q := fun t rp => t = .ow (intL ([48 + 4 * b + c])) ∧ rp = [some (.fr (.tup [.str "take", .int b, .int c])), some (.fr (.int at')), some (.fr .non)]) rfl (by
    simp [b__law_cells, E.pu, Es.pu, Ar.pu, It.pu, Oe.pu, binD, cmpD, idxD, biD, mtD, inD, atomD, keyOf, look2, mulOk, at_, atI, ixN, ofS_inj, ofS_beq, D.plain, D.plains, D.py, PyData.eqv, evS_aug, truD, ltwo_run, lfour_run, intL, two, four, l1, l2, l3, l5])
  try rw [ar] at g2
  rw [← g2, ← g3]; exact g1
theorem first_say (b : Int) : F_first_cell.run [.fr (.tup [.str "say", .int b]), .fr .non] = some (.fr (.int (64 + b)), [some (.fr (.tup [.str "say", .int b])), some (.fr .non)]) := by
  obtain ⟨t, rp, g1, g2, g3⟩ := run_by (n := 5) (io := [false, false]) (b := b_first_cell) (ts := [.fr (.tup [.str "say", .int b]), .fr .non])
    (Q := fun t rp => t = .fr (.int (64 + b)) ∧ rp = [some (.fr (.tup [.str "say", .int b])), some (.fr .non)]) rfl (by
    simp [b_first_cell, E.pu, Es.pu, Ar.pu, It.pu, Oe.pu, binD, cmpD, idxD, biD, mtD, inD, atomD, keyOf, look2, mulOk, at_, atI, ixN, ofS_inj, ofS_beq, D.plain, D.plains, D.py, PyData.eqv, evS_aug, truD])
  rw [← g2, ← g3]; exact g1
theorem cells_say (b at' : Int) : F_cells_of.run [.fr (.tup [.str "say", .int b]), .fr (.int at'), .fr .non] = some (.ow (intL ([64 + b])), [some (.fr (.tup [.str "say", .int b])), some (.fr (.int at')), some (.fr .non)]) := by
  have big := line_big
  have l1 : 1 ≤ sizeLine := by omega
  have l2 : 2 ≤ sizeLine := by omega
  have l3 : 3 ≤ sizeLine := by omega
  have l5 : 5 ≤ sizeLine := by omega
  obtain ⟨t, rp, g1, g2, g3⟩ := run_by (n := 7) (io := [false, false, false]) (b := b_cells_of) (ts := [.fr (.tup [.str "say", .int b]), .fr (.int at'), .fr .non])
    (Q := fun t rp => t = .ow (intL ([64 + b])) ∧ rp = [some (.fr (.tup [.str "say", .int b])), some (.fr (.int at')), some (.fr .non)]) rfl (by
    simp [b_cells_of, E.pu, Es.pu, Ar.pu, It.pu, Oe.pu, binD, cmpD, idxD, biD, mtD, inD, atomD, keyOf, look2, mulOk, at_, atI, ixN, ofS_inj, ofS_beq, D.plain, D.plains, D.py, PyData.eqv, evS_aug, truD, first_say, two_run, four_run, intL, two, four, l1, l2, l3, l5])
  rw [← g2, ← g3]; exact g1
theorem lcells_say (b at' : Int) : F__law_cells.run [.fr (.tup [.str "say", .int b]), .fr (.int at'), .fr .non] = some (.ow (intL ([64 + b])), [some (.fr (.tup [.str "say", .int b])), some (.fr (.int at')), some (.fr .non)]) := by
  have big := line_big
  have l1 : 1 ≤ sizeLine := by omega
  have l2 : 2 ≤ sizeLine := by omega
  have l3 : 3 ≤ sizeLine := by omega
  have l5 : 5 ≤ sizeLine := by omega
  have ar : 64 + b = 64 + b := by omega
  obtain ⟨t, rp, g1, g2, g3⟩ := run_by (n := 6) (io := [false, false, false]) (b := b__law_cells) (ts := [.fr (.tup [.str "say", .int b]), .fr (.int at'), .fr .non])
    (Q := fun t rp => t = .ow (intL ([64 + b])) ∧ rp = [some (.fr (.tup [.str "say", .int b])), some (.fr (.int at')), some (.fr .non)]) rfl (by
    simp [b__law_cells, E.pu, Es.pu, Ar.pu, It.pu, Oe.pu, binD, cmpD, idxD, biD, mtD, inD, atomD, keyOf, look2, mulOk, at_, atI, ixN, ofS_inj, ofS_beq, D.plain, D.plains, D.py, PyData.eqv, evS_aug, truD, ltwo_run, lfour_run, intL, two, four, l1, l2, l3, l5])
  try rw [ar] at g2
  rw [← g2, ← g3]; exact g1
theorem first_ask (b : Int) : F_first_cell.run [.fr (.tup [.str "ask", .int b]), .fr .non] = some (.fr (.int (68 + b)), [some (.fr (.tup [.str "ask", .int b])), some (.fr .non)]) := by
  obtain ⟨t, rp, g1, g2, g3⟩ := run_by (n := 5) (io := [false, false]) (b := b_first_cell) (ts := [.fr (.tup [.str "ask", .int b]), .fr .non])
    (Q := fun t rp => t = .fr (.int (68 + b)) ∧ rp = [some (.fr (.tup [.str "ask", .int b])), some (.fr .non)]) rfl (by
    simp [b_first_cell, E.pu, Es.pu, Ar.pu, It.pu, Oe.pu, binD, cmpD, idxD, biD, mtD, inD, atomD, keyOf, look2, mulOk, at_, atI, ixN, ofS_inj, ofS_beq, D.plain, D.plains, D.py, PyData.eqv, evS_aug, truD])
  rw [← g2, ← g3]; exact g1
theorem cells_ask (b at' : Int) : F_cells_of.run [.fr (.tup [.str "ask", .int b]), .fr (.int at'), .fr .non] = some (.ow (intL ([68 + b])), [some (.fr (.tup [.str "ask", .int b])), some (.fr (.int at')), some (.fr .non)]) := by
  have big := line_big
  have l1 : 1 ≤ sizeLine := by omega
  have l2 : 2 ≤ sizeLine := by omega
  have l3 : 3 ≤ sizeLine := by omega
  have l5 : 5 ≤ sizeLine := by omega
  obtain ⟨t, rp, g1, g2, g3⟩ := run_by (n := 7) (io := [false, false, false]) (b := b_cells_of) (ts := [.fr (.tup [.str "ask", .int b]), .fr (.int at'), .fr .non])
    (Q := fun t rp => t = .ow (intL ([68 + b])) ∧ rp = [some (.fr (.tup [.str "ask", .int b])), some (.fr (.int at')), some (.fr .non)]) rfl (by
    simp [b_cells_of, E.pu, Es.pu, Ar.pu, It.pu, Oe.pu, binD, cmpD, idxD, biD, mtD, inD, atomD, keyOf, look2, mulOk, at_, atI, ixN, ofS_inj, ofS_beq, D.plain, D.plains, D.py, PyData.eqv, evS_aug, truD, first_ask, two_run, four_run, intL, two, four, l1, l2, l3, l5])
  rw [← g2, ← g3]; exact g1
theorem lcells_ask (b at' : Int) : F__law_cells.run [.fr (.tup [.str "ask", .int b]), .fr (.int at'), .fr .non] = some (.ow (intL ([68 + b])), [some (.fr (.tup [.str "ask", .int b])), some (.fr (.int at')), some (.fr .non)]) := by
  have big := line_big
  have l1 : 1 ≤ sizeLine := by omega
  have l2 : 2 ≤ sizeLine := by omega
  have l3 : 3 ≤ sizeLine := by omega
  have l5 : 5 ≤ sizeLine := by omega
  have ar : 68 + b = 68 + b := by omega
  obtain ⟨t, rp, g1, g2, g3⟩ := run_by (n := 6) (io := [false, false, false]) (b := b__law_cells) (ts := [.fr (.tup [.str "ask", .int b]), .fr (.int at'), .fr .non])
    (Q := fun t rp => t = .ow (intL ([68 + b])) ∧ rp = [some (.fr (.tup [.str "ask", .int b])), some (.fr (.int at')), some (.fr .non)]) rfl (by
    simp [b__law_cells, E.pu, Es.pu, Ar.pu, It.pu, Oe.pu, binD, cmpD, idxD, biD, mtD, inD, atomD, keyOf, look2, mulOk, at_, atI, ixN, ofS_inj, ofS_beq, D.plain, D.plains, D.py, PyData.eqv, evS_aug, truD, ltwo_run, lfour_run, intL, two, four, l1, l2, l3, l5])
  try rw [ar] at g2
  rw [← g2, ← g3]; exact g1
theorem first_back  : F_first_cell.run [.fr (.tup [.str "back"]), .fr .non] = some (.fr (.int (98)), [some (.fr (.tup [.str "back"])), some (.fr .non)]) := by
  obtain ⟨t, rp, g1, g2, g3⟩ := run_by (n := 5) (io := [false, false]) (b := b_first_cell) (ts := [.fr (.tup [.str "back"]), .fr .non])
    (Q := fun t rp => t = .fr (.int (98)) ∧ rp = [some (.fr (.tup [.str "back"])), some (.fr .non)]) rfl (by
    simp [b_first_cell, E.pu, Es.pu, Ar.pu, It.pu, Oe.pu, binD, cmpD, idxD, biD, mtD, inD, atomD, keyOf, look2, mulOk, at_, atI, ixN, ofS_inj, ofS_beq, D.plain, D.plains, D.py, PyData.eqv, evS_aug, truD])
  rw [← g2, ← g3]; exact g1
theorem cells_back (at' : Int) : F_cells_of.run [.fr (.tup [.str "back"]), .fr (.int at'), .fr .non] = some (.ow (intL ([98])), [some (.fr (.tup [.str "back"])), some (.fr (.int at')), some (.fr .non)]) := by
  have big := line_big
  have l1 : 1 ≤ sizeLine := by omega
  have l2 : 2 ≤ sizeLine := by omega
  have l3 : 3 ≤ sizeLine := by omega
  have l5 : 5 ≤ sizeLine := by omega
  obtain ⟨t, rp, g1, g2, g3⟩ := run_by (n := 7) (io := [false, false, false]) (b := b_cells_of) (ts := [.fr (.tup [.str "back"]), .fr (.int at'), .fr .non])
    (Q := fun t rp => t = .ow (intL ([98])) ∧ rp = [some (.fr (.tup [.str "back"])), some (.fr (.int at')), some (.fr .non)]) rfl (by
    simp [b_cells_of, E.pu, Es.pu, Ar.pu, It.pu, Oe.pu, binD, cmpD, idxD, biD, mtD, inD, atomD, keyOf, look2, mulOk, at_, atI, ixN, ofS_inj, ofS_beq, D.plain, D.plains, D.py, PyData.eqv, evS_aug, truD, first_back, two_run, four_run, intL, two, four, l1, l2, l3, l5])
  rw [← g2, ← g3]; exact g1
theorem lcells_back (at' : Int) : F__law_cells.run [.fr (.tup [.str "back"]), .fr (.int at'), .fr .non] = some (.ow (intL ([98])), [some (.fr (.tup [.str "back"])), some (.fr (.int at')), some (.fr .non)]) := by
  have big := line_big
  have l1 : 1 ≤ sizeLine := by omega
  have l2 : 2 ≤ sizeLine := by omega
  have l3 : 3 ≤ sizeLine := by omega
  have l5 : 5 ≤ sizeLine := by omega
  have ar : 98 = 98 := by omega
  obtain ⟨t, rp, g1, g2, g3⟩ := run_by (n := 6) (io := [false, false, false]) (b := b__law_cells) (ts := [.fr (.tup [.str "back"]), .fr (.int at'), .fr .non])
    (Q := fun t rp => t = .ow (intL ([98])) ∧ rp = [some (.fr (.tup [.str "back"])), some (.fr (.int at')), some (.fr .non)]) rfl (by
    simp [b__law_cells, E.pu, Es.pu, Ar.pu, It.pu, Oe.pu, binD, cmpD, idxD, biD, mtD, inD, atomD, keyOf, look2, mulOk, at_, atI, ixN, ofS_inj, ofS_beq, D.plain, D.plains, D.py, PyData.eqv, evS_aug, truD, ltwo_run, lfour_run, intL, two, four, l1, l2, l3, l5])
  try rw [ar] at g2
  rw [← g2, ← g3]; exact g1
theorem first_stop  : F_first_cell.run [.fr (.tup [.str "stop"]), .fr .non] = some (.fr (.int (99)), [some (.fr (.tup [.str "stop"])), some (.fr .non)]) := by
  obtain ⟨t, rp, g1, g2, g3⟩ := run_by (n := 5) (io := [false, false]) (b := b_first_cell) (ts := [.fr (.tup [.str "stop"]), .fr .non])
    (Q := fun t rp => t = .fr (.int (99)) ∧ rp = [some (.fr (.tup [.str "stop"])), some (.fr .non)]) rfl (by
    simp [b_first_cell, E.pu, Es.pu, Ar.pu, It.pu, Oe.pu, binD, cmpD, idxD, biD, mtD, inD, atomD, keyOf, look2, mulOk, at_, atI, ixN, ofS_inj, ofS_beq, D.plain, D.plains, D.py, PyData.eqv, evS_aug, truD])
  rw [← g2, ← g3]; exact g1
theorem cells_stop (at' : Int) : F_cells_of.run [.fr (.tup [.str "stop"]), .fr (.int at'), .fr .non] = some (.ow (intL ([99])), [some (.fr (.tup [.str "stop"])), some (.fr (.int at')), some (.fr .non)]) := by
  have big := line_big
  have l1 : 1 ≤ sizeLine := by omega
  have l2 : 2 ≤ sizeLine := by omega
  have l3 : 3 ≤ sizeLine := by omega
  have l5 : 5 ≤ sizeLine := by omega
  obtain ⟨t, rp, g1, g2, g3⟩ := run_by (n := 7) (io := [false, false, false]) (b := b_cells_of) (ts := [.fr (.tup [.str "stop"]), .fr (.int at'), .fr .non])
    (Q := fun t rp => t = .ow (intL ([99])) ∧ rp = [some (.fr (.tup [.str "stop"])), some (.fr (.int at')), some (.fr .non)]) rfl (by
    simp [b_cells_of, E.pu, Es.pu, Ar.pu, It.pu, Oe.pu, binD, cmpD, idxD, biD, mtD, inD, atomD, keyOf, look2, mulOk, at_, atI, ixN, ofS_inj, ofS_beq, D.plain, D.plains, D.py, PyData.eqv, evS_aug, truD, first_stop, two_run, four_run, intL, two, four, l1, l2, l3, l5])
  rw [← g2, ← g3]; exact g1
theorem lcells_stop (at' : Int) : F__law_cells.run [.fr (.tup [.str "stop"]), .fr (.int at'), .fr .non] = some (.ow (intL ([99])), [some (.fr (.tup [.str "stop"])), some (.fr (.int at')), some (.fr .non)]) := by
  have big := line_big
  have l1 : 1 ≤ sizeLine := by omega
  have l2 : 2 ≤ sizeLine := by omega
  have l3 : 3 ≤ sizeLine := by omega
  have l5 : 5 ≤ sizeLine := by omega
  have ar : 99 = 99 := by omega
  obtain ⟨t, rp, g1, g2, g3⟩ := run_by (n := 6) (io := [false, false, false]) (b := b__law_cells) (ts := [.fr (.tup [.str "stop"]), .fr (.int at'), .fr .non])
    (Q := fun t rp => t = .ow (intL ([99])) ∧ rp = [some (.fr (.tup [.str "stop"])), some (.fr (.int at')), some (.fr .non)]) rfl (by
    simp [b__law_cells, E.pu, Es.pu, Ar.pu, It.pu, Oe.pu, binD, cmpD, idxD, biD, mtD, inD, atomD, keyOf, look2, mulOk, at_, atI, ixN, ofS_inj, ofS_beq, D.plain, D.plains, D.py, PyData.eqv, evS_aug, truD, ltwo_run, lfour_run, intL, two, four, l1, l2, l3, l5])
  try rw [ar] at g2
  rw [← g2, ← g3]; exact g1
theorem first_alike (b p q : Int) : F_first_cell.run [.fr (.tup [.str "alike", .int b, .int p, .int q]), .fr .non] = some (.fr (.int (144 + b)), [some (.fr (.tup [.str "alike", .int b, .int p, .int q])), some (.fr .non)]) := by
  obtain ⟨t, rp, g1, g2, g3⟩ := run_by (n := 5) (io := [false, false]) (b := b_first_cell) (ts := [.fr (.tup [.str "alike", .int b, .int p, .int q]), .fr .non])
    (Q := fun t rp => t = .fr (.int (144 + b)) ∧ rp = [some (.fr (.tup [.str "alike", .int b, .int p, .int q])), some (.fr .non)]) rfl (by
    simp [b_first_cell, E.pu, Es.pu, Ar.pu, It.pu, Oe.pu, binD, cmpD, idxD, biD, mtD, inD, atomD, keyOf, look2, mulOk, at_, atI, ixN, ofS_inj, ofS_beq, D.plain, D.plains, D.py, PyData.eqv, evS_aug, truD])
  rw [← g2, ← g3]; exact g1
theorem cells_alike (b p q at' : Int) : F_cells_of.run [.fr (.tup [.str "alike", .int b, .int p, .int q]), .fr (.int at'), .fr .non] = some (.ow (intL ([144 + b] ++ two p ++ two q)), [some (.fr (.tup [.str "alike", .int b, .int p, .int q])), some (.fr (.int at')), some (.fr .non)]) := by
  have big := line_big
  have l1 : 1 ≤ sizeLine := by omega
  have l2 : 2 ≤ sizeLine := by omega
  have l3 : 3 ≤ sizeLine := by omega
  have l5 : 5 ≤ sizeLine := by omega
  obtain ⟨t, rp, g1, g2, g3⟩ := run_by (n := 7) (io := [false, false, false]) (b := b_cells_of) (ts := [.fr (.tup [.str "alike", .int b, .int p, .int q]), .fr (.int at'), .fr .non])
    (Q := fun t rp => t = .ow (intL ([144 + b] ++ two p ++ two q)) ∧ rp = [some (.fr (.tup [.str "alike", .int b, .int p, .int q])), some (.fr (.int at')), some (.fr .non)]) rfl (by
    simp [b_cells_of, E.pu, Es.pu, Ar.pu, It.pu, Oe.pu, binD, cmpD, idxD, biD, mtD, inD, atomD, keyOf, look2, mulOk, at_, atI, ixN, ofS_inj, ofS_beq, D.plain, D.plains, D.py, PyData.eqv, evS_aug, truD, first_alike, two_run, four_run, intL, two, four, l1, l2, l3, l5])
  rw [← g2, ← g3]; exact g1
theorem lcells_alike (b p q at' : Int) : F__law_cells.run [.fr (.tup [.str "alike", .int b, .int p, .int q]), .fr (.int at'), .fr .non] = some (.ow (intL ([144 + b] ++ two p ++ two q)), [some (.fr (.tup [.str "alike", .int b, .int p, .int q])), some (.fr (.int at')), some (.fr .non)]) := by
  have big := line_big
  have l1 : 1 ≤ sizeLine := by omega
  have l2 : 2 ≤ sizeLine := by omega
  have l3 : 3 ≤ sizeLine := by omega
  have l5 : 5 ≤ sizeLine := by omega
  have ar : 144 + b = 144 + b := by omega
  obtain ⟨t, rp, g1, g2, g3⟩ := run_by (n := 6) (io := [false, false, false]) (b := b__law_cells) (ts := [.fr (.tup [.str "alike", .int b, .int p, .int q]), .fr (.int at'), .fr .non])
    (Q := fun t rp => t = .ow (intL ([144 + b] ++ two p ++ two q)) ∧ rp = [some (.fr (.tup [.str "alike", .int b, .int p, .int q])), some (.fr (.int at')), some (.fr .non)]) rfl (by
    simp [b__law_cells, E.pu, Es.pu, Ar.pu, It.pu, Oe.pu, binD, cmpD, idxD, biD, mtD, inD, atomD, keyOf, look2, mulOk, at_, atI, ixN, ofS_inj, ofS_beq, D.plain, D.plains, D.py, PyData.eqv, evS_aug, truD, ltwo_run, lfour_run, intL, two, four, l1, l2, l3, l5])
  try rw [ar] at g2
  rw [← g2, ← g3]; exact g1
theorem first_jump_n (p : Int) : F_first_cell.run [.fr (.tup [.str "jump", .int p]), .fr (.bl true)] = some (.fr (.int (80)), [some (.fr (.tup [.str "jump", .int p])), some (.fr (.bl true))]) := by
  obtain ⟨t, rp, g1, g2, g3⟩ := run_by (n := 5) (io := [false, false]) (b := b_first_cell) (ts := [.fr (.tup [.str "jump", .int p]), .fr (.bl true)])
    (Q := fun t rp => t = .fr (.int (80)) ∧ rp = [some (.fr (.tup [.str "jump", .int p])), some (.fr (.bl true))]) rfl (by
    simp [b_first_cell, E.pu, Es.pu, Ar.pu, It.pu, Oe.pu, binD, cmpD, idxD, biD, mtD, inD, atomD, keyOf, look2, mulOk, at_, atI, ixN, ofS_inj, ofS_beq, D.plain, D.plains, D.py, PyData.eqv, evS_aug, truD])
  rw [← g2, ← g3]; exact g1
theorem cells_jump_n (p at' : Int) : F_cells_of.run [.fr (.tup [.str "jump", .int p]), .fr (.int at'), .fr (.bl true)] = some (.ow (intL ([80] ++ [(p - at' - 2) % 256])), [some (.fr (.tup [.str "jump", .int p])), some (.fr (.int at')), some (.fr (.bl true))]) := by
  have big := line_big
  have l1 : 1 ≤ sizeLine := by omega
  have l2 : 2 ≤ sizeLine := by omega
  have l3 : 3 ≤ sizeLine := by omega
  have l5 : 5 ≤ sizeLine := by omega
  obtain ⟨t, rp, g1, g2, g3⟩ := run_by (n := 7) (io := [false, false, false]) (b := b_cells_of) (ts := [.fr (.tup [.str "jump", .int p]), .fr (.int at'), .fr (.bl true)])
    (Q := fun t rp => t = .ow (intL ([80] ++ [(p - at' - 2) % 256])) ∧ rp = [some (.fr (.tup [.str "jump", .int p])), some (.fr (.int at')), some (.fr (.bl true))]) rfl (by
    simp [b_cells_of, E.pu, Es.pu, Ar.pu, It.pu, Oe.pu, binD, cmpD, idxD, biD, mtD, inD, atomD, keyOf, look2, mulOk, at_, atI, ixN, ofS_inj, ofS_beq, D.plain, D.plains, D.py, PyData.eqv, evS_aug, truD, first_jump_n, two_run, four_run, intL, two, four, l1, l2, l3, l5])
  rw [← g2, ← g3]; exact g1
theorem lcells_jump_n (p at' : Int) : F__law_cells.run [.fr (.tup [.str "jump", .int p]), .fr (.int at'), .fr (.bl true)] = some (.ow (intL ([80] ++ [(p - at' - 2) % 256])), [some (.fr (.tup [.str "jump", .int p])), some (.fr (.int at')), some (.fr (.bl true))]) := by
  have big := line_big
  have l1 : 1 ≤ sizeLine := by omega
  have l2 : 2 ≤ sizeLine := by omega
  have l3 : 3 ≤ sizeLine := by omega
  have l5 : 5 ≤ sizeLine := by omega
  have ar : 80 = 80 := by omega
  obtain ⟨t, rp, g1, g2, g3⟩ := run_by (n := 6) (io := [false, false, false]) (b := b__law_cells) (ts := [.fr (.tup [.str "jump", .int p]), .fr (.int at'), .fr (.bl true)])
    (Q := fun t rp => t = .ow (intL ([80] ++ [(p - at' - 2) % 256])) ∧ rp = [some (.fr (.tup [.str "jump", .int p])), some (.fr (.int at')), some (.fr (.bl true))]) rfl (by
    simp [b__law_cells, E.pu, Es.pu, Ar.pu, It.pu, Oe.pu, binD, cmpD, idxD, biD, mtD, inD, atomD, keyOf, look2, mulOk, at_, atI, ixN, ofS_inj, ofS_beq, D.plain, D.plains, D.py, PyData.eqv, evS_aug, truD, ltwo_run, lfour_run, intL, two, four, l1, l2, l3, l5])
  try rw [ar] at g2
  rw [← g2, ← g3]; exact g1
theorem first_jump_f (p : Int) : F_first_cell.run [.fr (.tup [.str "jump", .int p]), .fr (.bl false)] = some (.fr (.int (81)), [some (.fr (.tup [.str "jump", .int p])), some (.fr (.bl false))]) := by
  obtain ⟨t, rp, g1, g2, g3⟩ := run_by (n := 5) (io := [false, false]) (b := b_first_cell) (ts := [.fr (.tup [.str "jump", .int p]), .fr (.bl false)])
    (Q := fun t rp => t = .fr (.int (81)) ∧ rp = [some (.fr (.tup [.str "jump", .int p])), some (.fr (.bl false))]) rfl (by
    simp [b_first_cell, E.pu, Es.pu, Ar.pu, It.pu, Oe.pu, binD, cmpD, idxD, biD, mtD, inD, atomD, keyOf, look2, mulOk, at_, atI, ixN, ofS_inj, ofS_beq, D.plain, D.plains, D.py, PyData.eqv, evS_aug, truD])
  rw [← g2, ← g3]; exact g1
theorem cells_jump_f (p at' : Int) : F_cells_of.run [.fr (.tup [.str "jump", .int p]), .fr (.int at'), .fr (.bl false)] = some (.ow (intL ([81] ++ two p)), [some (.fr (.tup [.str "jump", .int p])), some (.fr (.int at')), some (.fr (.bl false))]) := by
  have big := line_big
  have l1 : 1 ≤ sizeLine := by omega
  have l2 : 2 ≤ sizeLine := by omega
  have l3 : 3 ≤ sizeLine := by omega
  have l5 : 5 ≤ sizeLine := by omega
  obtain ⟨t, rp, g1, g2, g3⟩ := run_by (n := 7) (io := [false, false, false]) (b := b_cells_of) (ts := [.fr (.tup [.str "jump", .int p]), .fr (.int at'), .fr (.bl false)])
    (Q := fun t rp => t = .ow (intL ([81] ++ two p)) ∧ rp = [some (.fr (.tup [.str "jump", .int p])), some (.fr (.int at')), some (.fr (.bl false))]) rfl (by
    simp [b_cells_of, E.pu, Es.pu, Ar.pu, It.pu, Oe.pu, binD, cmpD, idxD, biD, mtD, inD, atomD, keyOf, look2, mulOk, at_, atI, ixN, ofS_inj, ofS_beq, D.plain, D.plains, D.py, PyData.eqv, evS_aug, truD, first_jump_f, two_run, four_run, intL, two, four, l1, l2, l3, l5])
  rw [← g2, ← g3]; exact g1
theorem lcells_jump_f (p at' : Int) : F__law_cells.run [.fr (.tup [.str "jump", .int p]), .fr (.int at'), .fr (.bl false)] = some (.ow (intL ([81] ++ two p)), [some (.fr (.tup [.str "jump", .int p])), some (.fr (.int at')), some (.fr (.bl false))]) := by
  have big := line_big
  have l1 : 1 ≤ sizeLine := by omega
  have l2 : 2 ≤ sizeLine := by omega
  have l3 : 3 ≤ sizeLine := by omega
  have l5 : 5 ≤ sizeLine := by omega
  have ar : 81 = 81 := by omega
  obtain ⟨t, rp, g1, g2, g3⟩ := run_by (n := 6) (io := [false, false, false]) (b := b__law_cells) (ts := [.fr (.tup [.str "jump", .int p]), .fr (.int at'), .fr (.bl false)])
    (Q := fun t rp => t = .ow (intL ([81] ++ two p)) ∧ rp = [some (.fr (.tup [.str "jump", .int p])), some (.fr (.int at')), some (.fr (.bl false))]) rfl (by
    simp [b__law_cells, E.pu, Es.pu, Ar.pu, It.pu, Oe.pu, binD, cmpD, idxD, biD, mtD, inD, atomD, keyOf, look2, mulOk, at_, atI, ixN, ofS_inj, ofS_beq, D.plain, D.plains, D.py, PyData.eqv, evS_aug, truD, ltwo_run, lfour_run, intL, two, four, l1, l2, l3, l5])
  try rw [ar] at g2
  rw [← g2, ← g3]; exact g1
theorem first_call_n (p : Int) : F_first_cell.run [.fr (.tup [.str "call", .int p]), .fr (.bl true)] = some (.fr (.int (82)), [some (.fr (.tup [.str "call", .int p])), some (.fr (.bl true))]) := by
  obtain ⟨t, rp, g1, g2, g3⟩ := run_by (n := 5) (io := [false, false]) (b := b_first_cell) (ts := [.fr (.tup [.str "call", .int p]), .fr (.bl true)])
    (Q := fun t rp => t = .fr (.int (82)) ∧ rp = [some (.fr (.tup [.str "call", .int p])), some (.fr (.bl true))]) rfl (by
    simp [b_first_cell, E.pu, Es.pu, Ar.pu, It.pu, Oe.pu, binD, cmpD, idxD, biD, mtD, inD, atomD, keyOf, look2, mulOk, at_, atI, ixN, ofS_inj, ofS_beq, D.plain, D.plains, D.py, PyData.eqv, evS_aug, truD])
  rw [← g2, ← g3]; exact g1
theorem cells_call_n (p at' : Int) : F_cells_of.run [.fr (.tup [.str "call", .int p]), .fr (.int at'), .fr (.bl true)] = some (.ow (intL ([82] ++ [(p - at' - 2) % 256])), [some (.fr (.tup [.str "call", .int p])), some (.fr (.int at')), some (.fr (.bl true))]) := by
  have big := line_big
  have l1 : 1 ≤ sizeLine := by omega
  have l2 : 2 ≤ sizeLine := by omega
  have l3 : 3 ≤ sizeLine := by omega
  have l5 : 5 ≤ sizeLine := by omega
  obtain ⟨t, rp, g1, g2, g3⟩ := run_by (n := 7) (io := [false, false, false]) (b := b_cells_of) (ts := [.fr (.tup [.str "call", .int p]), .fr (.int at'), .fr (.bl true)])
    (Q := fun t rp => t = .ow (intL ([82] ++ [(p - at' - 2) % 256])) ∧ rp = [some (.fr (.tup [.str "call", .int p])), some (.fr (.int at')), some (.fr (.bl true))]) rfl (by
    simp [b_cells_of, E.pu, Es.pu, Ar.pu, It.pu, Oe.pu, binD, cmpD, idxD, biD, mtD, inD, atomD, keyOf, look2, mulOk, at_, atI, ixN, ofS_inj, ofS_beq, D.plain, D.plains, D.py, PyData.eqv, evS_aug, truD, first_call_n, two_run, four_run, intL, two, four, l1, l2, l3, l5])
  rw [← g2, ← g3]; exact g1
theorem lcells_call_n (p at' : Int) : F__law_cells.run [.fr (.tup [.str "call", .int p]), .fr (.int at'), .fr (.bl true)] = some (.ow (intL ([82] ++ [(p - at' - 2) % 256])), [some (.fr (.tup [.str "call", .int p])), some (.fr (.int at')), some (.fr (.bl true))]) := by
  have big := line_big
  have l1 : 1 ≤ sizeLine := by omega
  have l2 : 2 ≤ sizeLine := by omega
  have l3 : 3 ≤ sizeLine := by omega
  have l5 : 5 ≤ sizeLine := by omega
  have ar : 82 = 82 := by omega
  obtain ⟨t, rp, g1, g2, g3⟩ := run_by (n := 6) (io := [false, false, false]) (b := b__law_cells) (ts := [.fr (.tup [.str "call", .int p]), .fr (.int at'), .fr (.bl true)])
    (Q := fun t rp => t = .ow (intL ([82] ++ [(p - at' - 2) % 256])) ∧ rp = [some (.fr (.tup [.str "call", .int p])), some (.fr (.int at')), some (.fr (.bl true))]) rfl (by
    simp [b__law_cells, E.pu, Es.pu, Ar.pu, It.pu, Oe.pu, binD, cmpD, idxD, biD, mtD, inD, atomD, keyOf, look2, mulOk, at_, atI, ixN, ofS_inj, ofS_beq, D.plain, D.plains, D.py, PyData.eqv, evS_aug, truD, ltwo_run, lfour_run, intL, two, four, l1, l2, l3, l5])
  try rw [ar] at g2
  rw [← g2, ← g3]; exact g1
theorem first_call_f (p : Int) : F_first_cell.run [.fr (.tup [.str "call", .int p]), .fr (.bl false)] = some (.fr (.int (83)), [some (.fr (.tup [.str "call", .int p])), some (.fr (.bl false))]) := by
  obtain ⟨t, rp, g1, g2, g3⟩ := run_by (n := 5) (io := [false, false]) (b := b_first_cell) (ts := [.fr (.tup [.str "call", .int p]), .fr (.bl false)])
    (Q := fun t rp => t = .fr (.int (83)) ∧ rp = [some (.fr (.tup [.str "call", .int p])), some (.fr (.bl false))]) rfl (by
    simp [b_first_cell, E.pu, Es.pu, Ar.pu, It.pu, Oe.pu, binD, cmpD, idxD, biD, mtD, inD, atomD, keyOf, look2, mulOk, at_, atI, ixN, ofS_inj, ofS_beq, D.plain, D.plains, D.py, PyData.eqv, evS_aug, truD])
  rw [← g2, ← g3]; exact g1
theorem cells_call_f (p at' : Int) : F_cells_of.run [.fr (.tup [.str "call", .int p]), .fr (.int at'), .fr (.bl false)] = some (.ow (intL ([83] ++ two p)), [some (.fr (.tup [.str "call", .int p])), some (.fr (.int at')), some (.fr (.bl false))]) := by
  have big := line_big
  have l1 : 1 ≤ sizeLine := by omega
  have l2 : 2 ≤ sizeLine := by omega
  have l3 : 3 ≤ sizeLine := by omega
  have l5 : 5 ≤ sizeLine := by omega
  obtain ⟨t, rp, g1, g2, g3⟩ := run_by (n := 7) (io := [false, false, false]) (b := b_cells_of) (ts := [.fr (.tup [.str "call", .int p]), .fr (.int at'), .fr (.bl false)])
    (Q := fun t rp => t = .ow (intL ([83] ++ two p)) ∧ rp = [some (.fr (.tup [.str "call", .int p])), some (.fr (.int at')), some (.fr (.bl false))]) rfl (by
    simp [b_cells_of, E.pu, Es.pu, Ar.pu, It.pu, Oe.pu, binD, cmpD, idxD, biD, mtD, inD, atomD, keyOf, look2, mulOk, at_, atI, ixN, ofS_inj, ofS_beq, D.plain, D.plains, D.py, PyData.eqv, evS_aug, truD, first_call_f, two_run, four_run, intL, two, four, l1, l2, l3, l5])
  rw [← g2, ← g3]; exact g1
theorem lcells_call_f (p at' : Int) : F__law_cells.run [.fr (.tup [.str "call", .int p]), .fr (.int at'), .fr (.bl false)] = some (.ow (intL ([83] ++ two p)), [some (.fr (.tup [.str "call", .int p])), some (.fr (.int at')), some (.fr (.bl false))]) := by
  have big := line_big
  have l1 : 1 ≤ sizeLine := by omega
  have l2 : 2 ≤ sizeLine := by omega
  have l3 : 3 ≤ sizeLine := by omega
  have l5 : 5 ≤ sizeLine := by omega
  have ar : 83 = 83 := by omega
  obtain ⟨t, rp, g1, g2, g3⟩ := run_by (n := 6) (io := [false, false, false]) (b := b__law_cells) (ts := [.fr (.tup [.str "call", .int p]), .fr (.int at'), .fr (.bl false)])
    (Q := fun t rp => t = .ow (intL ([83] ++ two p)) ∧ rp = [some (.fr (.tup [.str "call", .int p])), some (.fr (.int at')), some (.fr (.bl false))]) rfl (by
    simp [b__law_cells, E.pu, Es.pu, Ar.pu, It.pu, Oe.pu, binD, cmpD, idxD, biD, mtD, inD, atomD, keyOf, look2, mulOk, at_, atI, ixN, ofS_inj, ofS_beq, D.plain, D.plains, D.py, PyData.eqv, evS_aug, truD, ltwo_run, lfour_run, intL, two, four, l1, l2, l3, l5])
  try rw [ar] at g2
  rw [← g2, ← g3]; exact g1
theorem first_jumpif_n (b p : Int) : F_first_cell.run [.fr (.tup [.str "jumpif", .int b, .int p]), .fr (.bl true)] = some (.fr (.int (84 + b)), [some (.fr (.tup [.str "jumpif", .int b, .int p])), some (.fr (.bl true))]) := by
  obtain ⟨t, rp, g1, g2, g3⟩ := run_by (n := 5) (io := [false, false]) (b := b_first_cell) (ts := [.fr (.tup [.str "jumpif", .int b, .int p]), .fr (.bl true)])
    (Q := fun t rp => t = .fr (.int (84 + b)) ∧ rp = [some (.fr (.tup [.str "jumpif", .int b, .int p])), some (.fr (.bl true))]) rfl (by
    simp [b_first_cell, E.pu, Es.pu, Ar.pu, It.pu, Oe.pu, binD, cmpD, idxD, biD, mtD, inD, atomD, keyOf, look2, mulOk, at_, atI, ixN, ofS_inj, ofS_beq, D.plain, D.plains, D.py, PyData.eqv, evS_aug, truD])
  rw [← g2, ← g3]; exact g1
theorem cells_jumpif_n (b p at' : Int) : F_cells_of.run [.fr (.tup [.str "jumpif", .int b, .int p]), .fr (.int at'), .fr (.bl true)] = some (.ow (intL ([84 + b] ++ [(p - at' - 2) % 256])), [some (.fr (.tup [.str "jumpif", .int b, .int p])), some (.fr (.int at')), some (.fr (.bl true))]) := by
  have big := line_big
  have l1 : 1 ≤ sizeLine := by omega
  have l2 : 2 ≤ sizeLine := by omega
  have l3 : 3 ≤ sizeLine := by omega
  have l5 : 5 ≤ sizeLine := by omega
  obtain ⟨t, rp, g1, g2, g3⟩ := run_by (n := 7) (io := [false, false, false]) (b := b_cells_of) (ts := [.fr (.tup [.str "jumpif", .int b, .int p]), .fr (.int at'), .fr (.bl true)])
    (Q := fun t rp => t = .ow (intL ([84 + b] ++ [(p - at' - 2) % 256])) ∧ rp = [some (.fr (.tup [.str "jumpif", .int b, .int p])), some (.fr (.int at')), some (.fr (.bl true))]) rfl (by
    simp [b_cells_of, E.pu, Es.pu, Ar.pu, It.pu, Oe.pu, binD, cmpD, idxD, biD, mtD, inD, atomD, keyOf, look2, mulOk, at_, atI, ixN, ofS_inj, ofS_beq, D.plain, D.plains, D.py, PyData.eqv, evS_aug, truD, first_jumpif_n, two_run, four_run, intL, two, four, l1, l2, l3, l5])
  rw [← g2, ← g3]; exact g1
theorem lcells_jumpif_n (b p at' : Int) : F__law_cells.run [.fr (.tup [.str "jumpif", .int b, .int p]), .fr (.int at'), .fr (.bl true)] = some (.ow (intL ([84 + b] ++ [(p - at' - 2) % 256])), [some (.fr (.tup [.str "jumpif", .int b, .int p])), some (.fr (.int at')), some (.fr (.bl true))]) := by
  have big := line_big
  have l1 : 1 ≤ sizeLine := by omega
  have l2 : 2 ≤ sizeLine := by omega
  have l3 : 3 ≤ sizeLine := by omega
  have l5 : 5 ≤ sizeLine := by omega
  have ar : 84 + b = 84 + b := by omega
  obtain ⟨t, rp, g1, g2, g3⟩ := run_by (n := 6) (io := [false, false, false]) (b := b__law_cells) (ts := [.fr (.tup [.str "jumpif", .int b, .int p]), .fr (.int at'), .fr (.bl true)])
    (Q := fun t rp => t = .ow (intL ([84 + b] ++ [(p - at' - 2) % 256])) ∧ rp = [some (.fr (.tup [.str "jumpif", .int b, .int p])), some (.fr (.int at')), some (.fr (.bl true))]) rfl (by
    simp [b__law_cells, E.pu, Es.pu, Ar.pu, It.pu, Oe.pu, binD, cmpD, idxD, biD, mtD, inD, atomD, keyOf, look2, mulOk, at_, atI, ixN, ofS_inj, ofS_beq, D.plain, D.plains, D.py, PyData.eqv, evS_aug, truD, ltwo_run, lfour_run, intL, two, four, l1, l2, l3, l5])
  try rw [ar] at g2
  rw [← g2, ← g3]; exact g1
theorem first_jumpif_f (b p : Int) : F_first_cell.run [.fr (.tup [.str "jumpif", .int b, .int p]), .fr (.bl false)] = some (.fr (.int (84 + b + 4)), [some (.fr (.tup [.str "jumpif", .int b, .int p])), some (.fr (.bl false))]) := by
  obtain ⟨t, rp, g1, g2, g3⟩ := run_by (n := 5) (io := [false, false]) (b := b_first_cell) (ts := [.fr (.tup [.str "jumpif", .int b, .int p]), .fr (.bl false)])
    (Q := fun t rp => t = .fr (.int (84 + b + 4)) ∧ rp = [some (.fr (.tup [.str "jumpif", .int b, .int p])), some (.fr (.bl false))]) rfl (by
    simp [b_first_cell, E.pu, Es.pu, Ar.pu, It.pu, Oe.pu, binD, cmpD, idxD, biD, mtD, inD, atomD, keyOf, look2, mulOk, at_, atI, ixN, ofS_inj, ofS_beq, D.plain, D.plains, D.py, PyData.eqv, evS_aug, truD])
  rw [← g2, ← g3]; exact g1
theorem cells_jumpif_f (b p at' : Int) : F_cells_of.run [.fr (.tup [.str "jumpif", .int b, .int p]), .fr (.int at'), .fr (.bl false)] = some (.ow (intL ([84 + b + 4] ++ two p)), [some (.fr (.tup [.str "jumpif", .int b, .int p])), some (.fr (.int at')), some (.fr (.bl false))]) := by
  have big := line_big
  have l1 : 1 ≤ sizeLine := by omega
  have l2 : 2 ≤ sizeLine := by omega
  have l3 : 3 ≤ sizeLine := by omega
  have l5 : 5 ≤ sizeLine := by omega
  obtain ⟨t, rp, g1, g2, g3⟩ := run_by (n := 7) (io := [false, false, false]) (b := b_cells_of) (ts := [.fr (.tup [.str "jumpif", .int b, .int p]), .fr (.int at'), .fr (.bl false)])
    (Q := fun t rp => t = .ow (intL ([84 + b + 4] ++ two p)) ∧ rp = [some (.fr (.tup [.str "jumpif", .int b, .int p])), some (.fr (.int at')), some (.fr (.bl false))]) rfl (by
    simp [b_cells_of, E.pu, Es.pu, Ar.pu, It.pu, Oe.pu, binD, cmpD, idxD, biD, mtD, inD, atomD, keyOf, look2, mulOk, at_, atI, ixN, ofS_inj, ofS_beq, D.plain, D.plains, D.py, PyData.eqv, evS_aug, truD, first_jumpif_f, two_run, four_run, intL, two, four, l1, l2, l3, l5])
  rw [← g2, ← g3]; exact g1
theorem lcells_jumpif_f (b p at' : Int) : F__law_cells.run [.fr (.tup [.str "jumpif", .int b, .int p]), .fr (.int at'), .fr (.bl false)] = some (.ow (intL ([84 + b + 4] ++ two p)), [some (.fr (.tup [.str "jumpif", .int b, .int p])), some (.fr (.int at')), some (.fr (.bl false))]) := by
  have big := line_big
  have l1 : 1 ≤ sizeLine := by omega
  have l2 : 2 ≤ sizeLine := by omega
  have l3 : 3 ≤ sizeLine := by omega
  have l5 : 5 ≤ sizeLine := by omega
  have ar : 88 + b = 84 + b + 4 := by omega
  obtain ⟨t, rp, g1, g2, g3⟩ := run_by (n := 6) (io := [false, false, false]) (b := b__law_cells) (ts := [.fr (.tup [.str "jumpif", .int b, .int p]), .fr (.int at'), .fr (.bl false)])
    (Q := fun t rp => t = .ow (intL ([88 + b] ++ two p)) ∧ rp = [some (.fr (.tup [.str "jumpif", .int b, .int p])), some (.fr (.int at')), some (.fr (.bl false))]) rfl (by
    simp [b__law_cells, E.pu, Es.pu, Ar.pu, It.pu, Oe.pu, binD, cmpD, idxD, biD, mtD, inD, atomD, keyOf, look2, mulOk, at_, atI, ixN, ofS_inj, ofS_beq, D.plain, D.plains, D.py, PyData.eqv, evS_aug, truD, ltwo_run, lfour_run, intL, two, four, l1, l2, l3, l5])
  try rw [ar] at g2
  rw [← g2, ← g3]; exact g1
theorem first_jumpby_n (b p : Int) : F_first_cell.run [.fr (.tup [.str "jumpby", .int b, .int p]), .fr (.bl true)] = some (.fr (.int (100 + b)), [some (.fr (.tup [.str "jumpby", .int b, .int p])), some (.fr (.bl true))]) := by
  obtain ⟨t, rp, g1, g2, g3⟩ := run_by (n := 5) (io := [false, false]) (b := b_first_cell) (ts := [.fr (.tup [.str "jumpby", .int b, .int p]), .fr (.bl true)])
    (Q := fun t rp => t = .fr (.int (100 + b)) ∧ rp = [some (.fr (.tup [.str "jumpby", .int b, .int p])), some (.fr (.bl true))]) rfl (by
    simp [b_first_cell, E.pu, Es.pu, Ar.pu, It.pu, Oe.pu, binD, cmpD, idxD, biD, mtD, inD, atomD, keyOf, look2, mulOk, at_, atI, ixN, ofS_inj, ofS_beq, D.plain, D.plains, D.py, PyData.eqv, evS_aug, truD])
  rw [← g2, ← g3]; exact g1
theorem cells_jumpby_n (b p at' : Int) : F_cells_of.run [.fr (.tup [.str "jumpby", .int b, .int p]), .fr (.int at'), .fr (.bl true)] = some (.ow (intL ([100 + b] ++ [(p - at' - 2) % 256])), [some (.fr (.tup [.str "jumpby", .int b, .int p])), some (.fr (.int at')), some (.fr (.bl true))]) := by
  have big := line_big
  have l1 : 1 ≤ sizeLine := by omega
  have l2 : 2 ≤ sizeLine := by omega
  have l3 : 3 ≤ sizeLine := by omega
  have l5 : 5 ≤ sizeLine := by omega
  obtain ⟨t, rp, g1, g2, g3⟩ := run_by (n := 7) (io := [false, false, false]) (b := b_cells_of) (ts := [.fr (.tup [.str "jumpby", .int b, .int p]), .fr (.int at'), .fr (.bl true)])
    (Q := fun t rp => t = .ow (intL ([100 + b] ++ [(p - at' - 2) % 256])) ∧ rp = [some (.fr (.tup [.str "jumpby", .int b, .int p])), some (.fr (.int at')), some (.fr (.bl true))]) rfl (by
    simp [b_cells_of, E.pu, Es.pu, Ar.pu, It.pu, Oe.pu, binD, cmpD, idxD, biD, mtD, inD, atomD, keyOf, look2, mulOk, at_, atI, ixN, ofS_inj, ofS_beq, D.plain, D.plains, D.py, PyData.eqv, evS_aug, truD, first_jumpby_n, two_run, four_run, intL, two, four, l1, l2, l3, l5])
  rw [← g2, ← g3]; exact g1
theorem lcells_jumpby_n (b p at' : Int) : F__law_cells.run [.fr (.tup [.str "jumpby", .int b, .int p]), .fr (.int at'), .fr (.bl true)] = some (.ow (intL ([100 + b] ++ [(p - at' - 2) % 256])), [some (.fr (.tup [.str "jumpby", .int b, .int p])), some (.fr (.int at')), some (.fr (.bl true))]) := by
  have big := line_big
  have l1 : 1 ≤ sizeLine := by omega
  have l2 : 2 ≤ sizeLine := by omega
  have l3 : 3 ≤ sizeLine := by omega
  have l5 : 5 ≤ sizeLine := by omega
  have ar : 100 + b = 100 + b := by omega
  obtain ⟨t, rp, g1, g2, g3⟩ := run_by (n := 6) (io := [false, false, false]) (b := b__law_cells) (ts := [.fr (.tup [.str "jumpby", .int b, .int p]), .fr (.int at'), .fr (.bl true)])
    (Q := fun t rp => t = .ow (intL ([100 + b] ++ [(p - at' - 2) % 256])) ∧ rp = [some (.fr (.tup [.str "jumpby", .int b, .int p])), some (.fr (.int at')), some (.fr (.bl true))]) rfl (by
    simp [b__law_cells, E.pu, Es.pu, Ar.pu, It.pu, Oe.pu, binD, cmpD, idxD, biD, mtD, inD, atomD, keyOf, look2, mulOk, at_, atI, ixN, ofS_inj, ofS_beq, D.plain, D.plains, D.py, PyData.eqv, evS_aug, truD, ltwo_run, lfour_run, intL, two, four, l1, l2, l3, l5])
  try rw [ar] at g2
  rw [← g2, ← g3]; exact g1
theorem first_jumpby_f (b p : Int) : F_first_cell.run [.fr (.tup [.str "jumpby", .int b, .int p]), .fr (.bl false)] = some (.fr (.int (100 + b + 4)), [some (.fr (.tup [.str "jumpby", .int b, .int p])), some (.fr (.bl false))]) := by
  obtain ⟨t, rp, g1, g2, g3⟩ := run_by (n := 5) (io := [false, false]) (b := b_first_cell) (ts := [.fr (.tup [.str "jumpby", .int b, .int p]), .fr (.bl false)])
    (Q := fun t rp => t = .fr (.int (100 + b + 4)) ∧ rp = [some (.fr (.tup [.str "jumpby", .int b, .int p])), some (.fr (.bl false))]) rfl (by
    simp [b_first_cell, E.pu, Es.pu, Ar.pu, It.pu, Oe.pu, binD, cmpD, idxD, biD, mtD, inD, atomD, keyOf, look2, mulOk, at_, atI, ixN, ofS_inj, ofS_beq, D.plain, D.plains, D.py, PyData.eqv, evS_aug, truD])
  rw [← g2, ← g3]; exact g1
theorem cells_jumpby_f (b p at' : Int) : F_cells_of.run [.fr (.tup [.str "jumpby", .int b, .int p]), .fr (.int at'), .fr (.bl false)] = some (.ow (intL ([100 + b + 4] ++ two p)), [some (.fr (.tup [.str "jumpby", .int b, .int p])), some (.fr (.int at')), some (.fr (.bl false))]) := by
  have big := line_big
  have l1 : 1 ≤ sizeLine := by omega
  have l2 : 2 ≤ sizeLine := by omega
  have l3 : 3 ≤ sizeLine := by omega
  have l5 : 5 ≤ sizeLine := by omega
  obtain ⟨t, rp, g1, g2, g3⟩ := run_by (n := 7) (io := [false, false, false]) (b := b_cells_of) (ts := [.fr (.tup [.str "jumpby", .int b, .int p]), .fr (.int at'), .fr (.bl false)])
    (Q := fun t rp => t = .ow (intL ([100 + b + 4] ++ two p)) ∧ rp = [some (.fr (.tup [.str "jumpby", .int b, .int p])), some (.fr (.int at')), some (.fr (.bl false))]) rfl (by
    simp [b_cells_of, E.pu, Es.pu, Ar.pu, It.pu, Oe.pu, binD, cmpD, idxD, biD, mtD, inD, atomD, keyOf, look2, mulOk, at_, atI, ixN, ofS_inj, ofS_beq, D.plain, D.plains, D.py, PyData.eqv, evS_aug, truD, first_jumpby_f, two_run, four_run, intL, two, four, l1, l2, l3, l5])
  rw [← g2, ← g3]; exact g1
theorem lcells_jumpby_f (b p at' : Int) : F__law_cells.run [.fr (.tup [.str "jumpby", .int b, .int p]), .fr (.int at'), .fr (.bl false)] = some (.ow (intL ([100 + b + 4] ++ two p)), [some (.fr (.tup [.str "jumpby", .int b, .int p])), some (.fr (.int at')), some (.fr (.bl false))]) := by
  have big := line_big
  have l1 : 1 ≤ sizeLine := by omega
  have l2 : 2 ≤ sizeLine := by omega
  have l3 : 3 ≤ sizeLine := by omega
  have l5 : 5 ≤ sizeLine := by omega
  have ar : 104 + b = 100 + b + 4 := by omega
  obtain ⟨t, rp, g1, g2, g3⟩ := run_by (n := 6) (io := [false, false, false]) (b := b__law_cells) (ts := [.fr (.tup [.str "jumpby", .int b, .int p]), .fr (.int at'), .fr (.bl false)])
    (Q := fun t rp => t = .ow (intL ([104 + b] ++ two p)) ∧ rp = [some (.fr (.tup [.str "jumpby", .int b, .int p])), some (.fr (.int at')), some (.fr (.bl false))]) rfl (by
    simp [b__law_cells, E.pu, Es.pu, Ar.pu, It.pu, Oe.pu, binD, cmpD, idxD, biD, mtD, inD, atomD, keyOf, look2, mulOk, at_, atI, ixN, ofS_inj, ofS_beq, D.plain, D.plains, D.py, PyData.eqv, evS_aug, truD, ltwo_run, lfour_run, intL, two, four, l1, l2, l3, l5])
  try rw [ar] at g2
  rw [← g2, ← g3]; exact g1
theorem first_load_n (b c p : Int) : F_first_cell.run [.fr (.tup [.str "load", .int b, .int c, .int p]), .fr (.bl true)] = some (.fr (.int (112 + (4 * b + c))), [some (.fr (.tup [.str "load", .int b, .int c, .int p])), some (.fr (.bl true))]) := by
  obtain ⟨t, rp, g1, g2, g3⟩ := run_by (n := 5) (io := [false, false]) (b := b_first_cell) (ts := [.fr (.tup [.str "load", .int b, .int c, .int p]), .fr (.bl true)])
    (Q := fun t rp => t = .fr (.int (112 + (4 * b + c))) ∧ rp = [some (.fr (.tup [.str "load", .int b, .int c, .int p])), some (.fr (.bl true))]) rfl (by
    simp [b_first_cell, E.pu, Es.pu, Ar.pu, It.pu, Oe.pu, binD, cmpD, idxD, biD, mtD, inD, atomD, keyOf, look2, mulOk, at_, atI, ixN, ofS_inj, ofS_beq, D.plain, D.plains, D.py, PyData.eqv, evS_aug, truD])
  rw [← g2, ← g3]; exact g1
theorem cells_load_n (b c p at' : Int) : F_cells_of.run [.fr (.tup [.str "load", .int b, .int c, .int p]), .fr (.int at'), .fr (.bl true)] = some (.ow (intL ([112 + (4 * b + c)] ++ [(p - at' - 2) % 256])), [some (.fr (.tup [.str "load", .int b, .int c, .int p])), some (.fr (.int at')), some (.fr (.bl true))]) := by
  have big := line_big
  have l1 : 1 ≤ sizeLine := by omega
  have l2 : 2 ≤ sizeLine := by omega
  have l3 : 3 ≤ sizeLine := by omega
  have l5 : 5 ≤ sizeLine := by omega
  obtain ⟨t, rp, g1, g2, g3⟩ := run_by (n := 7) (io := [false, false, false]) (b := b_cells_of) (ts := [.fr (.tup [.str "load", .int b, .int c, .int p]), .fr (.int at'), .fr (.bl true)])
    (Q := fun t rp => t = .ow (intL ([112 + (4 * b + c)] ++ [(p - at' - 2) % 256])) ∧ rp = [some (.fr (.tup [.str "load", .int b, .int c, .int p])), some (.fr (.int at')), some (.fr (.bl true))]) rfl (by
    simp [b_cells_of, E.pu, Es.pu, Ar.pu, It.pu, Oe.pu, binD, cmpD, idxD, biD, mtD, inD, atomD, keyOf, look2, mulOk, at_, atI, ixN, ofS_inj, ofS_beq, D.plain, D.plains, D.py, PyData.eqv, evS_aug, truD, first_load_n, two_run, four_run, intL, two, four, l1, l2, l3, l5])
  rw [← g2, ← g3]; exact g1
theorem lcells_load_n (b c p at' : Int) : F__law_cells.run [.fr (.tup [.str "load", .int b, .int c, .int p]), .fr (.int at'), .fr (.bl true)] = some (.ow (intL ([112 + (4 * b + c)] ++ [(p - at' - 2) % 256])), [some (.fr (.tup [.str "load", .int b, .int c, .int p])), some (.fr (.int at')), some (.fr (.bl true))]) := by
  have big := line_big
  have l1 : 1 ≤ sizeLine := by omega
  have l2 : 2 ≤ sizeLine := by omega
  have l3 : 3 ≤ sizeLine := by omega
  have l5 : 5 ≤ sizeLine := by omega
  have ar : 112 + (4 * b + c) = 112 + (4 * b + c) := by omega
  obtain ⟨t, rp, g1, g2, g3⟩ := run_by (n := 6) (io := [false, false, false]) (b := b__law_cells) (ts := [.fr (.tup [.str "load", .int b, .int c, .int p]), .fr (.int at'), .fr (.bl true)])
    (Q := fun t rp => t = .ow (intL ([112 + (4 * b + c)] ++ [(p - at' - 2) % 256])) ∧ rp = [some (.fr (.tup [.str "load", .int b, .int c, .int p])), some (.fr (.int at')), some (.fr (.bl true))]) rfl (by
    simp [b__law_cells, E.pu, Es.pu, Ar.pu, It.pu, Oe.pu, binD, cmpD, idxD, biD, mtD, inD, atomD, keyOf, look2, mulOk, at_, atI, ixN, ofS_inj, ofS_beq, D.plain, D.plains, D.py, PyData.eqv, evS_aug, truD, ltwo_run, lfour_run, intL, two, four, l1, l2, l3, l5])
  try rw [ar] at g2
  rw [← g2, ← g3]; exact g1
theorem first_load_f (b c p : Int) : F_first_cell.run [.fr (.tup [.str "load", .int b, .int c, .int p]), .fr (.bl false)] = some (.fr (.int (112 + (4 * b + c) + 16)), [some (.fr (.tup [.str "load", .int b, .int c, .int p])), some (.fr (.bl false))]) := by
  obtain ⟨t, rp, g1, g2, g3⟩ := run_by (n := 5) (io := [false, false]) (b := b_first_cell) (ts := [.fr (.tup [.str "load", .int b, .int c, .int p]), .fr (.bl false)])
    (Q := fun t rp => t = .fr (.int (112 + (4 * b + c) + 16)) ∧ rp = [some (.fr (.tup [.str "load", .int b, .int c, .int p])), some (.fr (.bl false))]) rfl (by
    simp [b_first_cell, E.pu, Es.pu, Ar.pu, It.pu, Oe.pu, binD, cmpD, idxD, biD, mtD, inD, atomD, keyOf, look2, mulOk, at_, atI, ixN, ofS_inj, ofS_beq, D.plain, D.plains, D.py, PyData.eqv, evS_aug, truD])
  rw [← g2, ← g3]; exact g1
theorem cells_load_f (b c p at' : Int) : F_cells_of.run [.fr (.tup [.str "load", .int b, .int c, .int p]), .fr (.int at'), .fr (.bl false)] = some (.ow (intL ([112 + (4 * b + c) + 16] ++ two p)), [some (.fr (.tup [.str "load", .int b, .int c, .int p])), some (.fr (.int at')), some (.fr (.bl false))]) := by
  have big := line_big
  have l1 : 1 ≤ sizeLine := by omega
  have l2 : 2 ≤ sizeLine := by omega
  have l3 : 3 ≤ sizeLine := by omega
  have l5 : 5 ≤ sizeLine := by omega
  obtain ⟨t, rp, g1, g2, g3⟩ := run_by (n := 7) (io := [false, false, false]) (b := b_cells_of) (ts := [.fr (.tup [.str "load", .int b, .int c, .int p]), .fr (.int at'), .fr (.bl false)])
    (Q := fun t rp => t = .ow (intL ([112 + (4 * b + c) + 16] ++ two p)) ∧ rp = [some (.fr (.tup [.str "load", .int b, .int c, .int p])), some (.fr (.int at')), some (.fr (.bl false))]) rfl (by
    simp [b_cells_of, E.pu, Es.pu, Ar.pu, It.pu, Oe.pu, binD, cmpD, idxD, biD, mtD, inD, atomD, keyOf, look2, mulOk, at_, atI, ixN, ofS_inj, ofS_beq, D.plain, D.plains, D.py, PyData.eqv, evS_aug, truD, first_load_f, two_run, four_run, intL, two, four, l1, l2, l3, l5])
  rw [← g2, ← g3]; exact g1
theorem lcells_load_f (b c p at' : Int) : F__law_cells.run [.fr (.tup [.str "load", .int b, .int c, .int p]), .fr (.int at'), .fr (.bl false)] = some (.ow (intL ([112 + (4 * b + c) + 16] ++ two p)), [some (.fr (.tup [.str "load", .int b, .int c, .int p])), some (.fr (.int at')), some (.fr (.bl false))]) := by
  have big := line_big
  have l1 : 1 ≤ sizeLine := by omega
  have l2 : 2 ≤ sizeLine := by omega
  have l3 : 3 ≤ sizeLine := by omega
  have l5 : 5 ≤ sizeLine := by omega
  have ar : 128 + (4 * b + c) = 112 + (4 * b + c) + 16 := by omega
  obtain ⟨t, rp, g1, g2, g3⟩ := run_by (n := 6) (io := [false, false, false]) (b := b__law_cells) (ts := [.fr (.tup [.str "load", .int b, .int c, .int p]), .fr (.int at'), .fr (.bl false)])
    (Q := fun t rp => t = .ow (intL ([128 + (4 * b + c)] ++ two p)) ∧ rp = [some (.fr (.tup [.str "load", .int b, .int c, .int p])), some (.fr (.int at')), some (.fr (.bl false))]) rfl (by
    simp [b__law_cells, E.pu, Es.pu, Ar.pu, It.pu, Oe.pu, binD, cmpD, idxD, biD, mtD, inD, atomD, keyOf, look2, mulOk, at_, atI, ixN, ofS_inj, ofS_beq, D.plain, D.plains, D.py, PyData.eqv, evS_aug, truD, ltwo_run, lfour_run, intL, two, four, l1, l2, l3, l5])
  try rw [ar] at g2
  rw [← g2, ← g3]; exact g1
end FL
namespace FL
open PySem L2 FJ
theorem kind_set {b : Int} (b0 : 0 ≤ b) (b1 : b < 4) : F_kind_of.run [.fr (.int (16 + b))] = some (.fr (.tup [.str "set", .non, .tup [.int b]]), [some (.fr (.int (16 + b)))]) := by
  have hb : b = 0 ∨ b = 1 ∨ b = 2 ∨ b = 3 := by omega
  rcases hb with rfl | rfl | rfl | rfl <;> kernel_rfl
theorem kind_add {b : Int} (b0 : 0 ≤ b) (b1 : b < 4) {c : Int} (c0 : 0 ≤ c) (c1 : c < 4) : F_kind_of.run [.fr (.int (32 + (4 * b + c)))] = some (.fr (.tup [.str "add", .non, .tup [.int b, .int c]]), [some (.fr (.int (32 + (4 * b + c))))]) := by
  have hb : b = 0 ∨ b = 1 ∨ b = 2 ∨ b = 3 := by omega
  have hc : c = 0 ∨ c = 1 ∨ c = 2 ∨ c = 3 := by omega
  rcases hb with rfl | rfl | rfl | rfl <;> rcases hc with rfl | rfl | rfl | rfl <;> kernel_rfl
theorem kind_take {b : Int} (b0 : 0 ≤ b) (b1 : b < 4) {c : Int} (c0 : 0 ≤ c) (c1 : c < 4) : F_kind_of.run [.fr (.int (48 + (4 * b + c)))] = some (.fr (.tup [.str "take", .non, .tup [.int b, .int c]]), [some (.fr (.int (48 + (4 * b + c))))]) := by
  have hb : b = 0 ∨ b = 1 ∨ b = 2 ∨ b = 3 := by omega
  have hc : c = 0 ∨ c = 1 ∨ c = 2 ∨ c = 3 := by omega
  rcases hb with rfl | rfl | rfl | rfl <;> rcases hc with rfl | rfl | rfl | rfl <;> kernel_rfl
theorem kind_say {b : Int} (b0 : 0 ≤ b) (b1 : b < 4) : F_kind_of.run [.fr (.int (64 + b))] = some (.fr (.tup [.str "say", .non, .tup [.int b]]), [some (.fr (.int (64 + b)))]) := by
  have hb : b = 0 ∨ b = 1 ∨ b = 2 ∨ b = 3 := by omega
  rcases hb with rfl | rfl | rfl | rfl <;> kernel_rfl
theorem kind_ask {b : Int} (b0 : 0 ≤ b) (b1 : b < 4) : F_kind_of.run [.fr (.int (68 + b))] = some (.fr (.tup [.str "ask", .non, .tup [.int b]]), [some (.fr (.int (68 + b)))]) := by
  have hb : b = 0 ∨ b = 1 ∨ b = 2 ∨ b = 3 := by omega
  rcases hb with rfl | rfl | rfl | rfl <;> kernel_rfl
theorem kind_back : F_kind_of.run [.fr (.int (98))] = some (.fr (.tup [.str "back", .non, .tup []]), [some (.fr (.int (98)))]) := by
  kernel_rfl
theorem kind_stop : F_kind_of.run [.fr (.int (99))] = some (.fr (.tup [.str "stop", .non, .tup []]), [some (.fr (.int (99)))]) := by
  kernel_rfl
theorem kind_alike {b : Int} (b0 : 0 ≤ b) (b1 : b < 4) : F_kind_of.run [.fr (.int (144 + b))] = some (.fr (.tup [.str "alike", .non, .tup [.int b]]), [some (.fr (.int (144 + b)))]) := by
  have hb : b = 0 ∨ b = 1 ∨ b = 2 ∨ b = 3 := by omega
  rcases hb with rfl | rfl | rfl | rfl <;> kernel_rfl
theorem kind_jump_n : F_kind_of.run [.fr (.int (80))] = some (.fr (.tup [.str "jump", (.bl true), .tup []]), [some (.fr (.int (80)))]) := by
  kernel_rfl
theorem kind_jump_f : F_kind_of.run [.fr (.int (81))] = some (.fr (.tup [.str "jump", (.bl false), .tup []]), [some (.fr (.int (81)))]) := by
  kernel_rfl
theorem kind_call_n : F_kind_of.run [.fr (.int (82))] = some (.fr (.tup [.str "call", (.bl true), .tup []]), [some (.fr (.int (82)))]) := by
  kernel_rfl
theorem kind_call_f : F_kind_of.run [.fr (.int (83))] = some (.fr (.tup [.str "call", (.bl false), .tup []]), [some (.fr (.int (83)))]) := by
  kernel_rfl
theorem kind_jumpif_n {b : Int} (b0 : 0 ≤ b) (b1 : b < 4) : F_kind_of.run [.fr (.int (84 + b))] = some (.fr (.tup [.str "jumpif", (.bl true), .tup [.int b]]), [some (.fr (.int (84 + b)))]) := by
  have hb : b = 0 ∨ b = 1 ∨ b = 2 ∨ b = 3 := by omega
  rcases hb with rfl | rfl | rfl | rfl <;> kernel_rfl
theorem kind_jumpif_f {b : Int} (b0 : 0 ≤ b) (b1 : b < 4) : F_kind_of.run [.fr (.int (84 + b + 4))] = some (.fr (.tup [.str "jumpif", (.bl false), .tup [.int b]]), [some (.fr (.int (84 + b + 4)))]) := by
  have hb : b = 0 ∨ b = 1 ∨ b = 2 ∨ b = 3 := by omega
  rcases hb with rfl | rfl | rfl | rfl <;> kernel_rfl
theorem kind_jumpby_n {b : Int} (b0 : 0 ≤ b) (b1 : b < 4) : F_kind_of.run [.fr (.int (100 + b))] = some (.fr (.tup [.str "jumpby", (.bl true), .tup [.int b]]), [some (.fr (.int (100 + b)))]) := by
  have hb : b = 0 ∨ b = 1 ∨ b = 2 ∨ b = 3 := by omega
  rcases hb with rfl | rfl | rfl | rfl <;> kernel_rfl
theorem kind_jumpby_f {b : Int} (b0 : 0 ≤ b) (b1 : b < 4) : F_kind_of.run [.fr (.int (100 + b + 4))] = some (.fr (.tup [.str "jumpby", (.bl false), .tup [.int b]]), [some (.fr (.int (100 + b + 4)))]) := by
  have hb : b = 0 ∨ b = 1 ∨ b = 2 ∨ b = 3 := by omega
  rcases hb with rfl | rfl | rfl | rfl <;> kernel_rfl
theorem kind_load_n {b : Int} (b0 : 0 ≤ b) (b1 : b < 4) {c : Int} (c0 : 0 ≤ c) (c1 : c < 4) : F_kind_of.run [.fr (.int (112 + (4 * b + c)))] = some (.fr (.tup [.str "load", (.bl true), .tup [.int b, .int c]]), [some (.fr (.int (112 + (4 * b + c))))]) := by
  have hb : b = 0 ∨ b = 1 ∨ b = 2 ∨ b = 3 := by omega
  have hc : c = 0 ∨ c = 1 ∨ c = 2 ∨ c = 3 := by omega
  rcases hb with rfl | rfl | rfl | rfl <;> rcases hc with rfl | rfl | rfl | rfl <;> kernel_rfl
theorem kind_load_f {b : Int} (b0 : 0 ≤ b) (b1 : b < 4) {c : Int} (c0 : 0 ≤ c) (c1 : c < 4) : F_kind_of.run [.fr (.int (112 + (4 * b + c) + 16))] = some (.fr (.tup [.str "load", (.bl false), .tup [.int b, .int c]]), [some (.fr (.int (112 + (4 * b + c) + 16)))]) := by
  have hb : b = 0 ∨ b = 1 ∨ b = 2 ∨ b = 3 := by omega
  have hc : c = 0 ∨ c = 1 ∨ c = 2 ∨ c = 3 := by omega
  rcases hb with rfl | rfl | rfl | rfl <;> rcases hc with rfl | rfl | rfl | rfl <;> kernel_rfl
end FL
namespace FL
open PySem L2 FJ
def val (cs : List Int) : Int := cs.foldl (fun f c => 256 * f + c) 0
theorem val_two {x : Int} : val (two x) = x := by
  simp [val, two]; omega
theorem val_four {x : Int} : val (four x) = x % 4294967296 := by
  simp [val, four, two]; omega
theorem val_snoc {cs : List Int} {c : Int} : val (cs ++ [c]) = 256 * val cs + c := by simp [val]
def At (L : List Int) (a : Int) (cs : List Int) : Prop := ∃ pre post : List Int, L = pre ++ cs ++ post ∧ a = pre.length
section
variable {L cs ds : List Int} {a b c m : Int}
theorem At.left (h : At L a (cs ++ ds)) : At L a cs := by
  obtain ⟨pre, post, rfl, rfl⟩ := h
  exact ⟨pre, ds ++ post, by simp, rfl⟩
theorem At.right (h : At L a (cs ++ ds)) : At L (a + cs.length) ds := by
  obtain ⟨pre, post, rfl, rfl⟩ := h
  exact ⟨pre ++ cs, post, by simp, by simp⟩
theorem At.mono (M : List Int) (h : At L a cs) : At (L ++ M) a cs := by
  obtain ⟨pre, post, rfl, rfl⟩ := h
  exact ⟨pre, post ++ M, by simp, rfl⟩
theorem At.new (L cs : List Int) : At (L ++ cs) L.length cs := ⟨L, [], by simp, rfl⟩
theorem At.bd (h : At L a cs) : 0 ≤ a ∧ a + cs.length ≤ L.length := by
  obtain ⟨pre, post, rfl, rfl⟩ := h
  simp; omega
theorem At.drop (h0 : 0 ≤ a) {k : Nat} (h1 : a + k ≤ L.length) : At L a ((L.drop a.toNat).take k) := by
  refine ⟨L.take a.toNat, (L.drop a.toNat).drop k, ?_, ?_⟩
  · rw [List.append_assoc, List.take_append_drop, List.take_append_drop]
  · rw [List.length_take]; omega
theorem At.get (h : At L a (c :: cs)) : at_ (L.map D.int) a = some (.int c) := by
  obtain ⟨pre, post, rfl, rfl⟩ := h
  show atI _ _ = _
  unfold atI ixN
  rw [if_pos (by simp), if_pos (by simp; omega)]
  simp
theorem At.cut (h : At L a cs) (hm : b = a + cs.length) : cut (L.map D.int) (some a) (some b) = cs.map D.int := by
  obtain ⟨pre, post, rfl, rfl⟩ := h
  subst hm
  unfold FJ.cut
  rw [show ((pre.length : Int) + (cs.length : Int)) = ((pre.length + cs.length : Nat) : Int) by omega, HT.sIx_nat, HT.sIx_nat]
  simp only [List.length_map, List.length_append, List.map_append]
  rw [show min pre.length (pre.length + cs.length + post.length) = pre.length by omega, show min (pre.length + cs.length) (pre.length + cs.length + post.length) - pre.length = cs.length by omega]
  rw [List.append_assoc, List.drop_left' (by simp), List.take_left' (by simp)]
theorem wide_run (h : At L a cs) (hm : m = cs.length) (hl : L.length ≤ 100000) (big : 100000 ≤ sizeLine) : F_wide.run [.fr (intL L), .fr (.int a), .fr (.int m)] = some (.fr (.int (val cs)), [some (.fr (intL L)), some (.fr (.int a)), some (.fr (.int m))]) := by
  obtain ⟨h0, h1⟩ := h.bd
  obtain ⟨t, rp, g1, g2, g3⟩ := run_by (n := 5) (io := [false, false, false]) (b := b_wide) (ts := [.fr (intL L), .fr (.int a), .fr (.int m)])
    (Q := fun t rp => t = .fr (.int (val cs)) ∧ rp = [some (.fr (intL L)), some (.fr (.int a)), some (.fr (.int m))]) rfl (by
    have hb : ¬ ((L.length : Int) < a + m) := by omega
    have hb' : a + m ≤ (L.length : Int) := by omega
    have ln : biD .len [intL L] = some (.fr (.int L.length)) := by simp [biD, intL]
    have sl : sliD (intL L) (some a) (some (a + m)) = some (.ow (.lst (cs.map D.int))) := by simp only [sliD, intL]; rw [h.cut (by omega)]
    simp [b_wide, E.pu, Es.pu, Oe.pu, binD, cmpD, ln, hb, hb']
    refine WP_for (ds := cs.map .int) (hid := none) (r1 := [some (.fr (intL L)), some (.fr (.int a)), some (.fr (.int m)), some (.fr (.int 0)), none]) (fun k r => ∃ x, r = [some (.fr (intL L)), some (.fr (.int a)), some (.fr (.int m)), some (.fr (.int (val (cs.take k)))), x]) (by simp [evi, E.pu, Oe.pu, binD, sl, seqD]) ⟨none, by simp [hideE, val]⟩ rfl ?_ ?_
    · rintro k d r hd ⟨x, rfl⟩
      obtain ⟨i, hi, rfl⟩ : ∃ i, i ∈ cs ∧ d = .int i := by
        have := List.mem_of_getElem? hd
        obtain ⟨i, h1, h2⟩ := List.mem_map.mp this
        exact ⟨i, h1, h2.symm⟩
      have ht : cs.take (k + 1) = cs.take k ++ [i] := by
        rw [List.getElem?_map] at hd
        cases hk : cs[k]? with
        | none => rw [hk] at hd; cases hd
        | some j => rw [hk] at hd; cases hd; rw [List.take_add_one, hk]; rfl
      refine ⟨_, rfl, ?_⟩
      simp only [WP]
      simp [E.pu, binD, mulOk]
      rw [ht, val_snoc]
    · rintro r ⟨x, rfl⟩
      rw [List.length_map, List.take_length]
      simp [showE])
  rw [← g2, ← g3]; exact g1
def sgn (x b : Int) : Int := if b ≤ x * 2 then x - b else x
theorem signed_run {x b : Int} : F_signed.run [.fr (.int x), .fr (.int b)] = some (.fr (.int (sgn x b)), [some (.fr (.int x)), some (.fr (.int b))]) := by
  obtain ⟨t, rp, g1, g2, g3⟩ := run_by (n := 2) (io := [false, false]) (b := b_signed) (ts := [.fr (.int x), .fr (.int b)])
    (Q := fun t rp => t = .fr (.int (sgn x b)) ∧ rp = [some (.fr (.int x)), some (.fr (.int b))]) rfl (by
    by_cases h : b ≤ x * 2
    · simp [b_signed, E.pu, binD, cmpD, mulOk, sgn, h]
    · simp [b_signed, E.pu, binD, cmpD, mulOk, sgn, h])
  rw [← g2, ← g3]; exact g1
theorem sgn_four {v : Int} (h0 : -2147483648 ≤ v) (h1 : v < 2147483648) : sgn (val (four v)) 4294967296 = v := by
  rw [val_four]; unfold sgn; split <;> omega
theorem sgn_off {x : Int} (h0 : -128 ≤ x) (h1 : x < 128) : sgn (val [x % 256]) 256 = x := by
  simp only [val, List.foldl]; unfold sgn; split <;> omega
theorem within_run (h0 : 0 ≤ a) (h1 : a < L.length) : F_within.run [.fr (intL L), .fr (.int a)] = some (.fr .non, [some (.fr (intL L)), some (.fr (.int a))]) := by
  obtain ⟨t, rp, g1, g2, g3⟩ := run_by (n := 2) (io := [false, false]) (b := b_within) (ts := [.fr (intL L), .fr (.int a)])
    (Q := fun t rp => t = .fr .non ∧ rp = [some (.fr (intL L)), some (.fr (.int a))]) rfl (by
    have ln : biD .len [intL L] = some (.fr (.int L.length)) := by simp [biD, intL]
    simp [b_within, E.pu, Es.pu, cmpD, ln, h0, h1])
  rw [← g2, ← g3]; exact g1
theorem told_run (ds : List D) (k : Int) : F__law_told.run [.fr (.tup ds), .fr (.int k)] = some (.fr (.bl (decide ((ds.length : Int) = k))), [some (.fr (.tup ds)), some (.fr (.int k))]) := by
  obtain ⟨t, rp, g1, g2, g3⟩ := run_by (n := 2) (io := [false, false]) (b := b__law_told) (ts := [.fr (.tup ds), .fr (.int k)])
    (Q := fun t rp => t = .fr (.bl (decide ((ds.length : Int) = k))) ∧ rp = [some (.fr (.tup ds)), some (.fr (.int k))]) rfl (by
    simp [b__law_told, E.pu, Es.pu, cmpD, isD, biD])
  rw [← g2, ← g3]; exact g1
/-! ### the rest of a row -/
section
variable (hl : L.length ≤ 100000) (big : 100000 ≤ sizeLine)
include hl big
theorem rest_set {v : Int} (h : At L a (four v)) (h0 : -2147483648 ≤ v) (h1 : v < 2147483648) : F_read_rest.run [.fr (intL L), .fr (.int a), .fr (.str "set"), .fr .non] = some (.fr (.tup [.tup [.int v], .int 4]), [some (.fr (intL L)), some (.fr (.int a)), some (.fr (.str "set")), some (.fr .non)]) := by
  have w := wide_run (m := 4) h rfl hl big
  have l1 : 1 ≤ sizeLine := by omega
  have l2 : 2 ≤ sizeLine := by omega
  obtain ⟨t, rp, g1, g2, g3⟩ := run_by (n := 5) (io := [false, false, false, false]) (b := b_read_rest) (ts := [.fr (intL L), .fr (.int a), .fr (.str "set"), .fr .non])
    (Q := fun t rp => t = .fr (.tup [.tup [.int v], .int 4]) ∧ rp = [some (.fr (intL L)), some (.fr (.int a)), some (.fr (.str "set")), some (.fr .non)]) rfl (by
    simp [b_read_rest, E.pu, Es.pu, Ar.pu, cmpD, ofS_beq, ofS_inj, w, signed_run, sgn_four h0 h1, l1, l2])
  rw [← g2, ← g3]; exact g1
theorem rest_alike {p q : Int} (h : At L a (two p ++ two q)) : F_read_rest.run [.fr (intL L), .fr (.int a), .fr (.str "alike"), .fr .non] = some (.fr (.tup [.tup [.int p, .int q], .int 4]), [some (.fr (intL L)), some (.fr (.int a)), some (.fr (.str "alike")), some (.fr .non)]) := by
  have w1 := wide_run (m := 2) h.left rfl hl big
  have w2 := wide_run (m := 2) h.right rfl hl big
  have l2 : 2 ≤ sizeLine := by omega
  have e2 : (two p).length = 2 := rfl
  rw [e2, show ((2 : Nat) : Int) = 2 from rfl] at w2
  obtain ⟨t, rp, g1, g2, g3⟩ := run_by (n := 5) (io := [false, false, false, false]) (b := b_read_rest) (ts := [.fr (intL L), .fr (.int a), .fr (.str "alike"), .fr .non])
    (Q := fun t rp => t = .fr (.tup [.tup [.int p, .int q], .int 4]) ∧ rp = [some (.fr (intL L)), some (.fr (.int a)), some (.fr (.str "alike")), some (.fr .non)]) rfl (by
    simp [b_read_rest, E.pu, Es.pu, Ar.pu, binD, cmpD, ofS_beq, ofS_inj, w1, w2, val_two, l2])
  rw [← g2, ← g3]; exact g1
variable {k : String} (k1 : (k == "set") = false) (k2 : (k == "alike") = false)
include k1 k2
theorem rest_near {p x : Int} (h : At L a [(p - x - 2) % 256]) (ha : a = x + 1) (h0 : -128 ≤ p - x - 2) (h1 : p - x - 2 < 128) (p0 : 0 ≤ p) (p1 : p < 65536) : F_read_rest.run [.fr (intL L), .fr (.int a), .fr (.str (Str.ofString k)), .fr (.bl true)] = some (.fr (.tup [.tup [.int p], .int 1]), [some (.fr (intL L)), some (.fr (.int a)), some (.fr (.str (Str.ofString k))), some (.fr (.bl true))]) := by
  have w := wide_run (m := 1) h rfl hl big
  have l1 : 1 ≤ sizeLine := by omega
  have l2 : 2 ≤ sizeLine := by omega
  have e : a + 1 + (p - x - 2) = p := by omega
  obtain ⟨t, rp, g1, g2, g3⟩ := run_by (n := 5) (io := [false, false, false, false]) (b := b_read_rest) (ts := [.fr (intL L), .fr (.int a), .fr (.str (Str.ofString k)), .fr (.bl true)])
    (Q := fun t rp => t = .fr (.tup [.tup [.int p], .int 1]) ∧ rp = [some (.fr (intL L)), some (.fr (.int a)), some (.fr (.str (Str.ofString k))), some (.fr (.bl true))]) rfl (by
    simp [b_read_rest, E.pu, Es.pu, Ar.pu, binD, cmpD, ofS_beq, k1, k2, w, signed_run, sgn_off h0 h1, e, p0, p1, l1, l2])
  rw [← g2, ← g3]; exact g1
theorem rest_far {p : Int} (h : At L a (two p)) : F_read_rest.run [.fr (intL L), .fr (.int a), .fr (.str (Str.ofString k)), .fr (.bl false)] = some (.fr (.tup [.tup [.int p], .int 2]), [some (.fr (intL L)), some (.fr (.int a)), some (.fr (.str (Str.ofString k))), some (.fr (.bl false))]) := by
  have w := wide_run (m := 2) h rfl hl big
  have l1 : 1 ≤ sizeLine := by omega
  have l2 : 2 ≤ sizeLine := by omega
  obtain ⟨t, rp, g1, g2, g3⟩ := run_by (n := 5) (io := [false, false, false, false]) (b := b_read_rest) (ts := [.fr (intL L), .fr (.int a), .fr (.str (Str.ofString k)), .fr (.bl false)])
    (Q := fun t rp => t = .fr (.tup [.tup [.int p], .int 2]) ∧ rp = [some (.fr (intL L)), some (.fr (.int a)), some (.fr (.str (Str.ofString k))), some (.fr (.bl false))]) rfl (by
    simp [b_read_rest, E.pu, Es.pu, Ar.pu, binD, cmpD, ofS_beq, k1, k2, w, val_two, l1, l2])
  rw [← g2, ← g3]; exact g1
omit hl big in
theorem rest_none (big : 100000 ≤ sizeLine) : F_read_rest.run [.fr (intL L), .fr (.int a), .fr (.str (Str.ofString k)), .fr .non] = some (.fr (.tup [.tup [], .int 0]), [some (.fr (intL L)), some (.fr (.int a)), some (.fr (.str (Str.ofString k))), some (.fr .non)]) := by
  have l0 : (0 : Nat) ≤ sizeLine := by omega
  have l2 : 2 ≤ sizeLine := by omega
  obtain ⟨t, rp, g1, g2, g3⟩ := run_by (n := 5) (io := [false, false, false, false]) (b := b_read_rest) (ts := [.fr (intL L), .fr (.int a), .fr (.str (Str.ofString k)), .fr .non])
    (Q := fun t rp => t = .fr (.tup [.tup [], .int 0]) ∧ rp = [some (.fr (intL L)), some (.fr (.int a)), some (.fr (.str (Str.ofString k))), some (.fr .non)]) rfl (by
    simp [b_read_rest, E.pu, Es.pu, Ar.pu, binD, cmpD, ofS_beq, k1, k2, l0, l2])
  rw [← g2, ← g3]; exact g1
end
theorem code_run {bx rs : List D} {k near : D} (h : At L a (c :: cs)) (big : 100000 ≤ sizeLine) (hk : F_kind_of.run [.fr (.int c)] = some (.fr (.tup [k, near, .tup bx]), [some (.fr (.int c))]))
    (hr : F_read_rest.run [.fr (intL L), .fr (.int (a + 1)), .fr k, .fr near] = some (.fr (.tup [.tup rs, .int m]), [some (.fr (intL L)), some (.fr (.int (a + 1))), some (.fr k), some (.fr near)])) (hb : bx.length ≤ 5) (hs : rs.length ≤ 5) {e : Int} (he : e = a + 1 + m) :
    F_read_code.run [.fr (intL L), .fr (.int a)] = some (.fr (.tup [.tup (k :: (bx ++ rs)), near, .int e]), [some (.fr (intL L)), some (.fr (.int a))]) := by
  obtain ⟨h0, h1⟩ := h.bd
  simp only [List.length_cons] at h1
  have wi := within_run (L := L) h0 (by omega)
  have l1 : 1 ≤ sizeLine := by omega
  have l3 : 3 ≤ sizeLine := by omega
  have z1 : 1 + bx.length ≤ sizeLine := by omega
  have z2 : bx.length + 1 + rs.length ≤ sizeLine := by omega
  have ix : idxD (intL L) (.int a) = some (.int c) := h.get
  obtain ⟨t, rp, g1, g2, g3⟩ := run_by (n := 8) (io := [false, false]) (b := b_read_code) (ts := [.fr (intL L), .fr (.int a)])
    (Q := fun t rp => t = .fr (.tup [.tup (k :: (bx ++ rs)), near, .int e]) ∧ rp = [some (.fr (intL L)), some (.fr (.int a))]) rfl (by
    simp [b_read_code, E.pu, Es.pu, Ar.pu, binD, cmpD, wi, ix, hk, hr, he, Tg.bind, Tg.binds, l1, l3, z1, z2])
  rw [← g2, ← g3]; exact g1
end
end FL
namespace FL
open PySem L2 FJ
def RowX (a : Int) (row near : D) (cs : List Int) : Prop := ∃ (k : String) (ps : List D), row = .tup (.str (Str.ofString k) :: ps) ∧ (k == "numbers") = false ∧ (k == "table") = false ∧ D.plain 59 row = true ∧ (near = .non ∨ ∃ q, near = .bl q) ∧
  F_cells_of.run [.fr row, .fr (.int a), .fr near] = some (.ow (intL cs), [some (.fr row), some (.fr (.int a)), some (.fr near)]) ∧
  F__law_cells.run [.fr row, .fr (.int a), .fr near] = some (.ow (intL cs), [some (.fr row), some (.fr (.int a)), some (.fr near)]) ∧ cs.length ≤ 50 ∧
  ∀ (L : List Int) (e : Int), L.length ≤ 100000 → At L a cs → e = a + cs.length → F_read_code.run [.fr (intL L), .fr (.int a)] = some (.fr (.tup [row, near, .int e]), [some (.fr (intL L)), some (.fr (.int a))])
def RowOk (a : Int) (row near : D) : Prop := ∃ cs : List Int, RowX a row near cs
theorem line_big2 : 100000 ≤ sizeLine := by decide +kernel
theorem At.tail {L : List Int} {a c : Int} {cs : List Int} (h : At L a (c :: cs)) : At L (a + 1) cs := by
  have := At.right (cs := [c]) (ds := cs) h
  simpa using this
theorem ok_set {a : Int} {b : Int} (b0 : 0 ≤ b) (b1 : b < 4) {v : Int} (v0 : -2147483648 ≤ v) (v1 : v < 2147483648) : RowOk a (.tup [.str "set", .int b, .int v]) .non :=
  ⟨_, "set", _, rfl, rfl, rfl, rfl, .inl rfl, cells_set .., lcells_set .., by simp [four, two], fun L e hl h hE => code_run h line_big2 (kind_set b0 b1) (rest_set hl line_big2 h.tail v0 v1) (by simp) (by simp) (by simp [four, two] at hE; omega)⟩
theorem ok_add {a : Int} {b : Int} (b0 : 0 ≤ b) (b1 : b < 4) {c : Int} (c0 : 0 ≤ c) (c1 : c < 4) : RowOk a (.tup [.str "add", .int b, .int c]) .non :=
  ⟨_, "add", _, rfl, rfl, rfl, rfl, .inl rfl, cells_add .., lcells_add .., by simp [four, two], fun L e hl h hE => code_run h line_big2 (kind_add b0 b1 c0 c1) (rest_none rfl rfl line_big2) (by simp) (by simp) (by simp [four, two] at hE; omega)⟩
theorem ok_take {a : Int} {b : Int} (b0 : 0 ≤ b) (b1 : b < 4) {c : Int} (c0 : 0 ≤ c) (c1 : c < 4) : RowOk a (.tup [.str "take", .int b, .int c]) .non :=
  ⟨_, "take", _, rfl, rfl, rfl, rfl, .inl rfl, cells_take .., lcells_take .., by simp [four, two], fun L e hl h hE => code_run h line_big2 (kind_take b0 b1 c0 c1) (rest_none rfl rfl line_big2) (by simp) (by simp) (by simp [four, two] at hE; omega)⟩
theorem ok_say {a : Int} {b : Int} (b0 : 0 ≤ b) (b1 : b < 4) : RowOk a (.tup [.str "say", .int b]) .non :=
  ⟨_, "say", _, rfl, rfl, rfl, rfl, .inl rfl, cells_say .., lcells_say .., by simp [four, two], fun L e hl h hE => code_run h line_big2 (kind_say b0 b1) (rest_none rfl rfl line_big2) (by simp) (by simp) (by simp [four, two] at hE; omega)⟩
theorem ok_ask {a : Int} {b : Int} (b0 : 0 ≤ b) (b1 : b < 4) : RowOk a (.tup [.str "ask", .int b]) .non :=
  ⟨_, "ask", _, rfl, rfl, rfl, rfl, .inl rfl, cells_ask .., lcells_ask .., by simp [four, two], fun L e hl h hE => code_run h line_big2 (kind_ask b0 b1) (rest_none rfl rfl line_big2) (by simp) (by simp) (by simp [four, two] at hE; omega)⟩
theorem ok_back {a : Int} : RowOk a (.tup [.str "back"]) .non :=
  ⟨_, "back", _, rfl, rfl, rfl, rfl, .inl rfl, cells_back .., lcells_back .., by simp [four, two], fun L e hl h hE => code_run h line_big2 kind_back (rest_none rfl rfl line_big2) (by simp) (by simp) (by simp [four, two] at hE; omega)⟩
theorem ok_stop {a : Int} : RowOk a (.tup [.str "stop"]) .non :=
  ⟨_, "stop", _, rfl, rfl, rfl, rfl, .inl rfl, cells_stop .., lcells_stop .., by simp [four, two], fun L e hl h hE => code_run h line_big2 kind_stop (rest_none rfl rfl line_big2) (by simp) (by simp) (by simp [four, two] at hE; omega)⟩
theorem ok_alike {a : Int} {b : Int} (b0 : 0 ≤ b) (b1 : b < 4) {p : Int} (p0 : 0 ≤ p) (p1 : p < 65536) {q : Int} (q0 : 0 ≤ q) (q1 : q < 65536) : RowOk a (.tup [.str "alike", .int b, .int p, .int q]) .non :=
  ⟨_, "alike", _, rfl, rfl, rfl, rfl, .inl rfl, cells_alike .., lcells_alike .., by simp [four, two], fun L e hl h hE => code_run h line_big2 (kind_alike b0 b1) (rest_alike hl line_big2 h.tail) (by simp) (by simp) (by simp [four, two] at hE; omega)⟩
theorem ok_jump {a : Int} {p : Int} (p0 : 0 ≤ p) (p1 : p < 65536) (k : Bool) (hn : k = true → -128 ≤ p - a - 2 ∧ p - a - 2 < 128) : RowOk a (.tup [.str "jump", .int p]) (.bl k) := by
  cases k
  · exact ⟨_, "jump", _, rfl, rfl, rfl, rfl, .inr ⟨_, rfl⟩, cells_jump_f .., lcells_jump_f .., by simp [four, two], fun L e hl h hE => code_run h line_big2 kind_jump_f (rest_far hl line_big2 rfl rfl h.tail) (by simp) (by simp) (by simp [four, two] at hE; omega)⟩
  · exact ⟨_, "jump", _, rfl, rfl, rfl, rfl, .inr ⟨_, rfl⟩, cells_jump_n .., lcells_jump_n .., by simp [four, two], fun L e hl h hE => code_run h line_big2 kind_jump_n (rest_near hl line_big2 rfl rfl h.tail rfl (hn rfl).1 (hn rfl).2 p0 p1) (by simp) (by simp) (by simp [four, two] at hE; omega)⟩
theorem ok_call {a : Int} {p : Int} (p0 : 0 ≤ p) (p1 : p < 65536) (k : Bool) (hn : k = true → -128 ≤ p - a - 2 ∧ p - a - 2 < 128) : RowOk a (.tup [.str "call", .int p]) (.bl k) := by
  cases k
  · exact ⟨_, "call", _, rfl, rfl, rfl, rfl, .inr ⟨_, rfl⟩, cells_call_f .., lcells_call_f .., by simp [four, two], fun L e hl h hE => code_run h line_big2 kind_call_f (rest_far hl line_big2 rfl rfl h.tail) (by simp) (by simp) (by simp [four, two] at hE; omega)⟩
  · exact ⟨_, "call", _, rfl, rfl, rfl, rfl, .inr ⟨_, rfl⟩, cells_call_n .., lcells_call_n .., by simp [four, two], fun L e hl h hE => code_run h line_big2 kind_call_n (rest_near hl line_big2 rfl rfl h.tail rfl (hn rfl).1 (hn rfl).2 p0 p1) (by simp) (by simp) (by simp [four, two] at hE; omega)⟩
theorem ok_jumpif {a : Int} {b : Int} (b0 : 0 ≤ b) (b1 : b < 4) {p : Int} (p0 : 0 ≤ p) (p1 : p < 65536) (k : Bool) (hn : k = true → -128 ≤ p - a - 2 ∧ p - a - 2 < 128) : RowOk a (.tup [.str "jumpif", .int b, .int p]) (.bl k) := by
  cases k
  · exact ⟨_, "jumpif", _, rfl, rfl, rfl, rfl, .inr ⟨_, rfl⟩, cells_jumpif_f .., lcells_jumpif_f .., by simp [four, two], fun L e hl h hE => code_run h line_big2 (kind_jumpif_f b0 b1) (rest_far hl line_big2 rfl rfl h.tail) (by simp) (by simp) (by simp [four, two] at hE; omega)⟩
  · exact ⟨_, "jumpif", _, rfl, rfl, rfl, rfl, .inr ⟨_, rfl⟩, cells_jumpif_n .., lcells_jumpif_n .., by simp [four, two], fun L e hl h hE => code_run h line_big2 (kind_jumpif_n b0 b1) (rest_near hl line_big2 rfl rfl h.tail rfl (hn rfl).1 (hn rfl).2 p0 p1) (by simp) (by simp) (by simp [four, two] at hE; omega)⟩
theorem ok_jumpby {a : Int} {b : Int} (b0 : 0 ≤ b) (b1 : b < 4) {p : Int} (p0 : 0 ≤ p) (p1 : p < 65536) (k : Bool) (hn : k = true → -128 ≤ p - a - 2 ∧ p - a - 2 < 128) : RowOk a (.tup [.str "jumpby", .int b, .int p]) (.bl k) := by
  cases k
  · exact ⟨_, "jumpby", _, rfl, rfl, rfl, rfl, .inr ⟨_, rfl⟩, cells_jumpby_f .., lcells_jumpby_f .., by simp [four, two], fun L e hl h hE => code_run h line_big2 (kind_jumpby_f b0 b1) (rest_far hl line_big2 rfl rfl h.tail) (by simp) (by simp) (by simp [four, two] at hE; omega)⟩
  · exact ⟨_, "jumpby", _, rfl, rfl, rfl, rfl, .inr ⟨_, rfl⟩, cells_jumpby_n .., lcells_jumpby_n .., by simp [four, two], fun L e hl h hE => code_run h line_big2 (kind_jumpby_n b0 b1) (rest_near hl line_big2 rfl rfl h.tail rfl (hn rfl).1 (hn rfl).2 p0 p1) (by simp) (by simp) (by simp [four, two] at hE; omega)⟩
theorem ok_load {a : Int} {b : Int} (b0 : 0 ≤ b) (b1 : b < 4) {c : Int} (c0 : 0 ≤ c) (c1 : c < 4) {p : Int} (p0 : 0 ≤ p) (p1 : p < 65536) (k : Bool) (hn : k = true → -128 ≤ p - a - 2 ∧ p - a - 2 < 128) : RowOk a (.tup [.str "load", .int b, .int c, .int p]) (.bl k) := by
  cases k
  · exact ⟨_, "load", _, rfl, rfl, rfl, rfl, .inr ⟨_, rfl⟩, cells_load_f .., lcells_load_f .., by simp [four, two], fun L e hl h hE => code_run h line_big2 (kind_load_f b0 b1 c0 c1) (rest_far hl line_big2 rfl rfl h.tail) (by simp) (by simp) (by simp [four, two] at hE; omega)⟩
  · exact ⟨_, "load", _, rfl, rfl, rfl, rfl, .inr ⟨_, rfl⟩, cells_load_n .., lcells_load_n .., by simp [four, two], fun L e hl h hE => code_run h line_big2 (kind_load_n b0 b1 c0 c1) (rest_near hl line_big2 rfl rfl h.tail rfl (hn rfl).1 (hn rfl).2 p0 p1) (by simp) (by simp) (by simp [four, two] at hE; omega)⟩
end FL
namespace FL
open PySem L2 FJ
theorem row_run {n : Nat} {t : T} {a : Int} (s : Src n t) (hn : n ≤ 999800) (ha0 : 0 ≤ a) (ha1 : a < 65536) :
    ∃ row near t', F__law_row.run [t, .fr (.int a)] = some (.fr (.tup [row, near]), [some t', some (.fr (.int a))]) ∧ Src (n + 9) t' ∧ RowOk a row near := by
  have d13 : divOk 13 = true := by decide
  have d4 : divOk 4 = true := by decide
  have d2 : divOk 2 = true := by decide
  have d256 : divOk 256 = true := by decide
  have big := line_big
  have l0 : (0 : Nat) ≤ sizeLine := by omega
  have l1 : 1 ≤ sizeLine := by omega
  have l2 : 2 ≤ sizeLine := by omega
  have l3 : 3 ≤ sizeLine := by omega
  have l4 : 4 ≤ sizeLine := by omega
  have l13 : 13 ≤ sizeLine := by omega
  obtain ⟨v1, t1, e1, a1, b1, s1⟩ := next_run (many := 13) s (by omega) (by decide) d13
  obtain ⟨v2, t2, e2, a2, b2, s2⟩ := next_run (many := 4) s1 (by omega) (by decide) d4
  obtain ⟨v3, t3, e3, a3, b3, s3⟩ := next_run (many := 4) s2 (by omega) (by decide) d4
  obtain ⟨vn, tn, en, vn0, vn1, sn⟩ := number_run s3 (by omega)
  obtain ⟨p1, tp1, ep1, ap1, bp1, sp1⟩ := place_run s3 (by omega)
  obtain ⟨p2, tp2, ep2, ap2, bp2, sp2⟩ := place_run sp1 (by omega)
  obtain ⟨v4, t4, e4, a4, b4, s4⟩ := next_run (many := 2) s3 (by omega) (by decide) d2
  obtain ⟨p5, t5, e5, a5, b5, s5⟩ := place_run s4 (by omega)
  obtain ⟨v6, t6, e6, a6, b6, s6⟩ := next_run (many := 256) s5 (by omega) (by decide) d256
  obtain ⟨t, rp, g1, row, near, t', rfl, rfl, g2, g3⟩ := run_by (n := 9) (io := [true, false]) (b := b__law_row) (ts := [t, .fr (.int a)])
    (Q := fun t rp => ∃ row near t', t = .fr (.tup [row, near]) ∧ rp = [some t', some (.fr (.int a))] ∧ Src (n + 9) t' ∧ RowOk a row near) rfl (by
    have hv : v1 = 0 ∨ v1 = 1 ∨ v1 = 2 ∨ v1 = 3 ∨ v1 = 4 ∨ v1 = 5 ∨ v1 = 6 ∨ v1 = 7 ∨ v1 = 8 ∨ v1 = 9 ∨ v1 = 10 ∨ v1 = 11 ∨ v1 = 12 := by omega
    rcases hv with rfl | rfl | rfl | rfl | rfl | rfl | rfl | rfl | rfl | rfl | rfl | rfl | rfl
    · simp [b__law_row, E.pu, Es.pu, Ar.pu, It.pu, Oe.pu, binD, cmpD, idxD, biD, mtD, inD, atomD, keyOf, look2, mulOk, at_, atI, ixN, ofS_inj, ofS_beq, D.plain, D.plains, D.py, PyData.eqv, evS_aug, truD, frz, e1, e2, e3, l0, l1, l2, l3, l4, l13, en]
      exact ⟨_, _, ⟨rfl, rfl⟩, sn.mono (by omega), ok_set a2 b2 vn0 vn1⟩
    · simp [b__law_row, E.pu, Es.pu, Ar.pu, It.pu, Oe.pu, binD, cmpD, idxD, biD, mtD, inD, atomD, keyOf, look2, mulOk, at_, atI, ixN, ofS_inj, ofS_beq, D.plain, D.plains, D.py, PyData.eqv, evS_aug, truD, frz, e1, e2, e3, l0, l1, l2, l3, l4, l13, en]
      exact ⟨_, _, ⟨rfl, rfl⟩, s3.mono (by omega), ok_add a2 b2 a3 b3⟩
    · simp [b__law_row, E.pu, Es.pu, Ar.pu, It.pu, Oe.pu, binD, cmpD, idxD, biD, mtD, inD, atomD, keyOf, look2, mulOk, at_, atI, ixN, ofS_inj, ofS_beq, D.plain, D.plains, D.py, PyData.eqv, evS_aug, truD, frz, e1, e2, e3, l0, l1, l2, l3, l4, l13, en]
      exact ⟨_, _, ⟨rfl, rfl⟩, s3.mono (by omega), ok_take a2 b2 a3 b3⟩
    · simp [b__law_row, E.pu, Es.pu, Ar.pu, It.pu, Oe.pu, binD, cmpD, idxD, biD, mtD, inD, atomD, keyOf, look2, mulOk, at_, atI, ixN, ofS_inj, ofS_beq, D.plain, D.plains, D.py, PyData.eqv, evS_aug, truD, frz, e1, e2, e3, l0, l1, l2, l3, l4, l13, en]
      exact ⟨_, _, ⟨rfl, rfl⟩, s3.mono (by omega), ok_say a2 b2⟩
    · simp [b__law_row, E.pu, Es.pu, Ar.pu, It.pu, Oe.pu, binD, cmpD, idxD, biD, mtD, inD, atomD, keyOf, look2, mulOk, at_, atI, ixN, ofS_inj, ofS_beq, D.plain, D.plains, D.py, PyData.eqv, evS_aug, truD, frz, e1, e2, e3, l0, l1, l2, l3, l4, l13, en]
      exact ⟨_, _, ⟨rfl, rfl⟩, s3.mono (by omega), ok_ask a2 b2⟩
    · by_cases h4 : v4 = 0
      · obtain ⟨pl, hpl⟩ : ∃ x, a + 2 + v6 - 128 = x := ⟨_, rfl⟩
        by_cases hr : 0 ≤ pl ∧ pl < 65536
        · obtain ⟨hr0, hr1⟩ := hr
          simp [b__law_row, E.pu, Es.pu, Ar.pu, It.pu, Oe.pu, binD, cmpD, idxD, biD, mtD, inD, atomD, keyOf, look2, mulOk, at_, atI, ixN, ofS_inj, ofS_beq, D.plain, D.plains, D.py, PyData.eqv, evS_aug, truD, frz, e1, e2, e3, l0, l1, l2, l3, l4, l13, e4, e5, e6, h4, hpl, hr0, hr1]
          exact ⟨_, _, ⟨rfl, rfl⟩, s6.mono (by omega), ok_jump hr0 hr1 true (fun _ => by omega)⟩
        · have hr' : 0 ≤ pl → ¬ (pl < 65536) := fun x y => hr ⟨x, y⟩
          by_cases hr0 : 0 ≤ pl
          · have hr1 := hr' hr0
            simp [b__law_row, E.pu, Es.pu, Ar.pu, It.pu, Oe.pu, binD, cmpD, idxD, biD, mtD, inD, atomD, keyOf, look2, mulOk, at_, atI, ixN, ofS_inj, ofS_beq, D.plain, D.plains, D.py, PyData.eqv, evS_aug, truD, frz, e1, e2, e3, l0, l1, l2, l3, l4, l13, e4, e5, e6, h4, hpl, hr0, hr1]
            exact ⟨_, _, ⟨rfl, rfl⟩, s6.mono (by omega), ok_jump ha0 ha1 true (fun _ => by omega)⟩
          · simp [b__law_row, E.pu, Es.pu, Ar.pu, It.pu, Oe.pu, binD, cmpD, idxD, biD, mtD, inD, atomD, keyOf, look2, mulOk, at_, atI, ixN, ofS_inj, ofS_beq, D.plain, D.plains, D.py, PyData.eqv, evS_aug, truD, frz, e1, e2, e3, l0, l1, l2, l3, l4, l13, e4, e5, e6, h4, hpl, hr0]
            exact ⟨_, _, ⟨rfl, rfl⟩, s6.mono (by omega), ok_jump ha0 ha1 true (fun _ => by omega)⟩
      · simp [b__law_row, E.pu, Es.pu, Ar.pu, It.pu, Oe.pu, binD, cmpD, idxD, biD, mtD, inD, atomD, keyOf, look2, mulOk, at_, atI, ixN, ofS_inj, ofS_beq, D.plain, D.plains, D.py, PyData.eqv, evS_aug, truD, frz, e1, e2, e3, l0, l1, l2, l3, l4, l13, e4, e5, e6, h4]
        exact ⟨_, _, ⟨rfl, rfl⟩, s5.mono (by omega), ok_jump a5 b5 false (fun h => by cases h)⟩
    · by_cases h4 : v4 = 0
      · obtain ⟨pl, hpl⟩ : ∃ x, a + 2 + v6 - 128 = x := ⟨_, rfl⟩
        by_cases hr : 0 ≤ pl ∧ pl < 65536
        · obtain ⟨hr0, hr1⟩ := hr
          simp [b__law_row, E.pu, Es.pu, Ar.pu, It.pu, Oe.pu, binD, cmpD, idxD, biD, mtD, inD, atomD, keyOf, look2, mulOk, at_, atI, ixN, ofS_inj, ofS_beq, D.plain, D.plains, D.py, PyData.eqv, evS_aug, truD, frz, e1, e2, e3, l0, l1, l2, l3, l4, l13, e4, e5, e6, h4, hpl, hr0, hr1]
          exact ⟨_, _, ⟨rfl, rfl⟩, s6.mono (by omega), ok_jumpif a2 b2 hr0 hr1 true (fun _ => by omega)⟩
        · have hr' : 0 ≤ pl → ¬ (pl < 65536) := fun x y => hr ⟨x, y⟩
          by_cases hr0 : 0 ≤ pl
          · have hr1 := hr' hr0
            simp [b__law_row, E.pu, Es.pu, Ar.pu, It.pu, Oe.pu, binD, cmpD, idxD, biD, mtD, inD, atomD, keyOf, look2, mulOk, at_, atI, ixN, ofS_inj, ofS_beq, D.plain, D.plains, D.py, PyData.eqv, evS_aug, truD, frz, e1, e2, e3, l0, l1, l2, l3, l4, l13, e4, e5, e6, h4, hpl, hr0, hr1]
            exact ⟨_, _, ⟨rfl, rfl⟩, s6.mono (by omega), ok_jumpif a2 b2 ha0 ha1 true (fun _ => by omega)⟩
          · simp [b__law_row, E.pu, Es.pu, Ar.pu, It.pu, Oe.pu, binD, cmpD, idxD, biD, mtD, inD, atomD, keyOf, look2, mulOk, at_, atI, ixN, ofS_inj, ofS_beq, D.plain, D.plains, D.py, PyData.eqv, evS_aug, truD, frz, e1, e2, e3, l0, l1, l2, l3, l4, l13, e4, e5, e6, h4, hpl, hr0]
            exact ⟨_, _, ⟨rfl, rfl⟩, s6.mono (by omega), ok_jumpif a2 b2 ha0 ha1 true (fun _ => by omega)⟩
      · simp [b__law_row, E.pu, Es.pu, Ar.pu, It.pu, Oe.pu, binD, cmpD, idxD, biD, mtD, inD, atomD, keyOf, look2, mulOk, at_, atI, ixN, ofS_inj, ofS_beq, D.plain, D.plains, D.py, PyData.eqv, evS_aug, truD, frz, e1, e2, e3, l0, l1, l2, l3, l4, l13, e4, e5, e6, h4]
        exact ⟨_, _, ⟨rfl, rfl⟩, s5.mono (by omega), ok_jumpif a2 b2 a5 b5 false (fun h => by cases h)⟩
    · by_cases h4 : v4 = 0
      · obtain ⟨pl, hpl⟩ : ∃ x, a + 2 + v6 - 128 = x := ⟨_, rfl⟩
        by_cases hr : 0 ≤ pl ∧ pl < 65536
        · obtain ⟨hr0, hr1⟩ := hr
          simp [b__law_row, E.pu, Es.pu, Ar.pu, It.pu, Oe.pu, binD, cmpD, idxD, biD, mtD, inD, atomD, keyOf, look2, mulOk, at_, atI, ixN, ofS_inj, ofS_beq, D.plain, D.plains, D.py, PyData.eqv, evS_aug, truD, frz, e1, e2, e3, l0, l1, l2, l3, l4, l13, e4, e5, e6, h4, hpl, hr0, hr1]
          exact ⟨_, _, ⟨rfl, rfl⟩, s6.mono (by omega), ok_call hr0 hr1 true (fun _ => by omega)⟩
        · have hr' : 0 ≤ pl → ¬ (pl < 65536) := fun x y => hr ⟨x, y⟩
          by_cases hr0 : 0 ≤ pl
          · have hr1 := hr' hr0
            simp [b__law_row, E.pu, Es.pu, Ar.pu, It.pu, Oe.pu, binD, cmpD, idxD, biD, mtD, inD, atomD, keyOf, look2, mulOk, at_, atI, ixN, ofS_inj, ofS_beq, D.plain, D.plains, D.py, PyData.eqv, evS_aug, truD, frz, e1, e2, e3, l0, l1, l2, l3, l4, l13, e4, e5, e6, h4, hpl, hr0, hr1]
            exact ⟨_, _, ⟨rfl, rfl⟩, s6.mono (by omega), ok_call ha0 ha1 true (fun _ => by omega)⟩
          · simp [b__law_row, E.pu, Es.pu, Ar.pu, It.pu, Oe.pu, binD, cmpD, idxD, biD, mtD, inD, atomD, keyOf, look2, mulOk, at_, atI, ixN, ofS_inj, ofS_beq, D.plain, D.plains, D.py, PyData.eqv, evS_aug, truD, frz, e1, e2, e3, l0, l1, l2, l3, l4, l13, e4, e5, e6, h4, hpl, hr0]
            exact ⟨_, _, ⟨rfl, rfl⟩, s6.mono (by omega), ok_call ha0 ha1 true (fun _ => by omega)⟩
      · simp [b__law_row, E.pu, Es.pu, Ar.pu, It.pu, Oe.pu, binD, cmpD, idxD, biD, mtD, inD, atomD, keyOf, look2, mulOk, at_, atI, ixN, ofS_inj, ofS_beq, D.plain, D.plains, D.py, PyData.eqv, evS_aug, truD, frz, e1, e2, e3, l0, l1, l2, l3, l4, l13, e4, e5, e6, h4]
        exact ⟨_, _, ⟨rfl, rfl⟩, s5.mono (by omega), ok_call a5 b5 false (fun h => by cases h)⟩
    · simp [b__law_row, E.pu, Es.pu, Ar.pu, It.pu, Oe.pu, binD, cmpD, idxD, biD, mtD, inD, atomD, keyOf, look2, mulOk, at_, atI, ixN, ofS_inj, ofS_beq, D.plain, D.plains, D.py, PyData.eqv, evS_aug, truD, frz, e1, e2, e3, l0, l1, l2, l3, l4, l13, en]
      exact ⟨_, _, ⟨rfl, rfl⟩, s3.mono (by omega), ok_back⟩
    · simp [b__law_row, E.pu, Es.pu, Ar.pu, It.pu, Oe.pu, binD, cmpD, idxD, biD, mtD, inD, atomD, keyOf, look2, mulOk, at_, atI, ixN, ofS_inj, ofS_beq, D.plain, D.plains, D.py, PyData.eqv, evS_aug, truD, frz, e1, e2, e3, l0, l1, l2, l3, l4, l13, en]
      exact ⟨_, _, ⟨rfl, rfl⟩, s3.mono (by omega), ok_stop⟩
    · by_cases h4 : v4 = 0
      · obtain ⟨pl, hpl⟩ : ∃ x, a + 2 + v6 - 128 = x := ⟨_, rfl⟩
        by_cases hr : 0 ≤ pl ∧ pl < 65536
        · obtain ⟨hr0, hr1⟩ := hr
          simp [b__law_row, E.pu, Es.pu, Ar.pu, It.pu, Oe.pu, binD, cmpD, idxD, biD, mtD, inD, atomD, keyOf, look2, mulOk, at_, atI, ixN, ofS_inj, ofS_beq, D.plain, D.plains, D.py, PyData.eqv, evS_aug, truD, frz, e1, e2, e3, l0, l1, l2, l3, l4, l13, e4, e5, e6, h4, hpl, hr0, hr1]
          exact ⟨_, _, ⟨rfl, rfl⟩, s6.mono (by omega), ok_load a2 b2 a3 b3 hr0 hr1 true (fun _ => by omega)⟩
        · have hr' : 0 ≤ pl → ¬ (pl < 65536) := fun x y => hr ⟨x, y⟩
          by_cases hr0 : 0 ≤ pl
          · have hr1 := hr' hr0
            simp [b__law_row, E.pu, Es.pu, Ar.pu, It.pu, Oe.pu, binD, cmpD, idxD, biD, mtD, inD, atomD, keyOf, look2, mulOk, at_, atI, ixN, ofS_inj, ofS_beq, D.plain, D.plains, D.py, PyData.eqv, evS_aug, truD, frz, e1, e2, e3, l0, l1, l2, l3, l4, l13, e4, e5, e6, h4, hpl, hr0, hr1]
            exact ⟨_, _, ⟨rfl, rfl⟩, s6.mono (by omega), ok_load a2 b2 a3 b3 ha0 ha1 true (fun _ => by omega)⟩
          · simp [b__law_row, E.pu, Es.pu, Ar.pu, It.pu, Oe.pu, binD, cmpD, idxD, biD, mtD, inD, atomD, keyOf, look2, mulOk, at_, atI, ixN, ofS_inj, ofS_beq, D.plain, D.plains, D.py, PyData.eqv, evS_aug, truD, frz, e1, e2, e3, l0, l1, l2, l3, l4, l13, e4, e5, e6, h4, hpl, hr0]
            exact ⟨_, _, ⟨rfl, rfl⟩, s6.mono (by omega), ok_load a2 b2 a3 b3 ha0 ha1 true (fun _ => by omega)⟩
      · simp [b__law_row, E.pu, Es.pu, Ar.pu, It.pu, Oe.pu, binD, cmpD, idxD, biD, mtD, inD, atomD, keyOf, look2, mulOk, at_, atI, ixN, ofS_inj, ofS_beq, D.plain, D.plains, D.py, PyData.eqv, evS_aug, truD, frz, e1, e2, e3, l0, l1, l2, l3, l4, l13, e4, e5, e6, h4]
        exact ⟨_, _, ⟨rfl, rfl⟩, s5.mono (by omega), ok_load a2 b2 a3 b3 a5 b5 false (fun h => by cases h)⟩
    · by_cases h4 : v4 = 0
      · obtain ⟨pl, hpl⟩ : ∃ x, a + 2 + v6 - 128 = x := ⟨_, rfl⟩
        by_cases hr : 0 ≤ pl ∧ pl < 65536
        · obtain ⟨hr0, hr1⟩ := hr
          simp [b__law_row, E.pu, Es.pu, Ar.pu, It.pu, Oe.pu, binD, cmpD, idxD, biD, mtD, inD, atomD, keyOf, look2, mulOk, at_, atI, ixN, ofS_inj, ofS_beq, D.plain, D.plains, D.py, PyData.eqv, evS_aug, truD, frz, e1, e2, e3, l0, l1, l2, l3, l4, l13, e4, e5, e6, h4, hpl, hr0, hr1]
          exact ⟨_, _, ⟨rfl, rfl⟩, s6.mono (by omega), ok_jumpby a2 b2 hr0 hr1 true (fun _ => by omega)⟩
        · have hr' : 0 ≤ pl → ¬ (pl < 65536) := fun x y => hr ⟨x, y⟩
          by_cases hr0 : 0 ≤ pl
          · have hr1 := hr' hr0
            simp [b__law_row, E.pu, Es.pu, Ar.pu, It.pu, Oe.pu, binD, cmpD, idxD, biD, mtD, inD, atomD, keyOf, look2, mulOk, at_, atI, ixN, ofS_inj, ofS_beq, D.plain, D.plains, D.py, PyData.eqv, evS_aug, truD, frz, e1, e2, e3, l0, l1, l2, l3, l4, l13, e4, e5, e6, h4, hpl, hr0, hr1]
            exact ⟨_, _, ⟨rfl, rfl⟩, s6.mono (by omega), ok_jumpby a2 b2 ha0 ha1 true (fun _ => by omega)⟩
          · simp [b__law_row, E.pu, Es.pu, Ar.pu, It.pu, Oe.pu, binD, cmpD, idxD, biD, mtD, inD, atomD, keyOf, look2, mulOk, at_, atI, ixN, ofS_inj, ofS_beq, D.plain, D.plains, D.py, PyData.eqv, evS_aug, truD, frz, e1, e2, e3, l0, l1, l2, l3, l4, l13, e4, e5, e6, h4, hpl, hr0]
            exact ⟨_, _, ⟨rfl, rfl⟩, s6.mono (by omega), ok_jumpby a2 b2 ha0 ha1 true (fun _ => by omega)⟩
      · simp [b__law_row, E.pu, Es.pu, Ar.pu, It.pu, Oe.pu, binD, cmpD, idxD, biD, mtD, inD, atomD, keyOf, look2, mulOk, at_, atI, ixN, ofS_inj, ofS_beq, D.plain, D.plains, D.py, PyData.eqv, evS_aug, truD, frz, e1, e2, e3, l0, l1, l2, l3, l4, l13, e4, e5, e6, h4]
        exact ⟨_, _, ⟨rfl, rfl⟩, s5.mono (by omega), ok_jumpby a2 b2 a5 b5 false (fun h => by cases h)⟩
    · simp [b__law_row, E.pu, Es.pu, Ar.pu, It.pu, Oe.pu, binD, cmpD, idxD, biD, mtD, inD, atomD, keyOf, look2, mulOk, at_, atI, ixN, ofS_inj, ofS_beq, D.plain, D.plains, D.py, PyData.eqv, evS_aug, truD, frz, e1, e2, e3, l0, l1, l2, l3, l4, l13, ep1, ep2]
      exact ⟨_, _, ⟨rfl, rfl⟩, sp2.mono (by omega), ok_alike a2 b2 ap1 bp1 ap2 bp2⟩)
  exact ⟨row, near, t', g1, g2, g3⟩
end FL
namespace FL
open PySem L2 FJ
theorem compL_ind {cf : FJ.Env → Option (Bool × FJ.Env)} {ef : FJ.Env → FJ.R} {i N : Nat} {Pv : D → Prop} (I : Nat → FJ.Env → Prop) : ∀ {ds : List D} {n : Nat} {r : FJ.Env} {acc : List D}, n + ds.length ≤ N → I n r → acc.length + ds.length ≤ sizeLine →
    (∀ n d r, n < N → d ∈ ds → I n r → cf (r.set i (some (.fr d))) = some (true, r.set i (some (.fr d))) ∧ ∃ v r2, ef (r.set i (some (.fr d))) = .ok (.v (.fr v)) r2 ∧ Pv v ∧ I (n + 1) (r2.set i none)) →
    ∃ out r', compL cf ef (.name i) ds r acc = .ok (acc ++ out) r' ∧ out.length = ds.length ∧ (∀ d ∈ out, Pv d) ∧ I (n + ds.length) r'
  | [], n, r, acc, _, h, _, _ => ⟨[], r, by simp [compL], rfl, by simp, by simpa using h⟩
  | d :: ds, n, r, acc, hN, h, hl, st => by
    simp only [List.length_cons] at hl hN
    obtain ⟨h1, v, r2, h2, h3, h4⟩ := st n d r (by omega) (List.mem_cons_self ..) h
    obtain ⟨out, r', g1, g2, g3, g4⟩ := compL_ind (acc := acc ++ [v]) I (by omega) h4 (by simp; omega) fun n d' r hn hd => st n d' r hn (List.mem_cons_of_mem _ hd)
    refine ⟨v :: out, r', ?_, by simp [g2], ?_, by rw [List.length_cons, show n + (ds.length + 1) = n + 1 + ds.length by omega]; exact g4⟩
    · simp only [compL, Tg.bind, h1, h2, useE, Val.toD, T.toD, Tg.slots, wipeE]
      rw [if_pos (by omega), g1, List.append_assoc]; rfl
    · intro d' hd
      rcases List.mem_cons.mp hd with rfl | hd
      · exact h3
      · exact g3 d' hd
theorem compL_mapT {cf : FJ.Env → Option (Bool × FJ.Env)} {ef : FJ.Env → FJ.R} {i : Nat} {r : FJ.Env} {g : D → D} : ∀ {ds acc : List D}, r.set i none = r → (∀ d ∈ ds, cf (r.set i (some (.fr d))) = some (true, r.set i (some (.fr d)))) →
    (∀ d ∈ ds, ∃ t, ef (r.set i (some (.fr d))) = .ok (.v t) (r.set i (some (.fr d))) ∧ t.toD = g d) → acc.length + ds.length ≤ sizeLine → compL cf ef (.name i) ds r acc = .ok (acc ++ ds.map g) r
  | [], acc, _, _, _, _ => by simp [compL]
  | d :: ds, acc, hr, hc, he, hl => by
    obtain ⟨t, e1, e2⟩ := he d (List.mem_cons_self ..)
    have hw : wipeE (Tg.name i).slots (useE false (.v t) (r.set i (some (.fr d)))) = r := by
      simp only [Tg.slots, wipeE, useE, List.set_set]; exact hr
    simp only [List.length_cons] at hl
    simp only [compL, Tg.bind, hc d (List.mem_cons_self ..), e1, hw]
    rw [if_pos (by omega), compL_mapT hr (fun d h => hc d (List.mem_cons_of_mem _ h)) (fun d h => he d (List.mem_cons_of_mem _ h)) (by simp; omega)]
    simp [Val.toD, e2]
theorem ints_of : ∀ {out : List D} {Pv : Int → Prop}, (∀ d ∈ out, ∃ i, d = .int i ∧ Pv i) → ∃ l : List Int, out = l.map .int ∧ ∀ i ∈ l, Pv i
  | [], _, _ => ⟨[], rfl, by simp⟩
  | d :: out, Pv, h => by
    obtain ⟨i, rfl, hi⟩ := h d (List.mem_cons_self ..)
    obtain ⟨l, rfl, hl⟩ := ints_of fun d hd => h d (List.mem_cons_of_mem _ hd)
    refine ⟨i :: l, rfl, fun j hj => ?_⟩
    rcases List.mem_cons.mp hj with rfl | hj
    · exact hi
    · exact hl j hj
def cat (f : Int → List Int) (l : List Int) : List Int := (l.map f).flatten
theorem cat_len {f : Int → List Int} {k : Nat} (hf : ∀ i, (f i).length = k) : ∀ l : List Int, (cat f l).length = k * l.length
  | [] => by simp [cat]
  | a :: l => by
    have := cat_len hf l
    simp only [cat] at this
    simp only [cat, List.map_cons, List.flatten_cons, List.length_append, List.length_cons, hf, this, Nat.mul_add, Nat.mul_one]
    omega
theorem cat_snoc {f : Int → List Int} {l : List Int} {a : Int} : cat f (l ++ [a]) = cat f l ++ f a := by simp [cat]
theorem cell_cat {f : Int → List Int} {l : List Int} (h : ∀ i ∈ l, Cell (f i)) : Cell (cat f l) := by
  intro i hi
  simp only [cat, List.mem_flatten, List.mem_map] at hi
  obtain ⟨m, ⟨a, ha, rfl⟩, hi⟩ := hi
  exact h a ha i hi
theorem lists_map {f : Int → List Int} : ∀ l : List Int, listsOf (l.map fun i => intL (f i)) = some (l.map fun i => (f i).map D.int)
  | [] => rfl
  | a :: l => by
    have := lists_map (f := f) l
    simp only [List.map_cons, intL, listsOf] at this ⊢
    rw [this]; rfl
theorem flat_map {f : Int → List Int} (l : List Int) : (l.map fun i => (f i).map D.int).flatten = (cat f l).map D.int := by
  induction l with
  | nil => rfl
  | cons a l ih => simp only [List.map_cons, List.flatten_cons, ih, cat, List.map_append]
theorem cells_list (l : List Int) (h0 : l ≠ []) (h1 : l.length ≤ 10) (a : Int) (k : String) (f : Int → List Int) (hk : k = "numbers" ∧ f = four ∨ k = "table" ∧ f = two) : F_cells_of.run [.fr (.tup [.str (Str.ofString k), intL l]), .fr (.int a), .fr .non] =
    some (.ow (intL (two l.length ++ cat f l)), [some (.fr (.tup [.str (Str.ofString k), intL l])), some (.fr (.int a)), some (.fr .non)]) := by
  have big := line_big
  have l0 : (0 : Nat) ≤ sizeLine := by omega
  have ht : ∀ l : List Int, intL l = .lst (l.map .int) := fun _ => rfl
  obtain ⟨t, rp, g1, g2, g3⟩ := run_by (n := 7) (io := [false, false, false]) (b := b_cells_of) (ts := [.fr (.tup [.str (Str.ofString k), intL l]), .fr (.int a), .fr .non])
    (Q := fun t rp => t = .ow (intL (two l.length ++ cat f l)) ∧ rp = [some (.fr (.tup [.str (Str.ofString k), intL l])), some (.fr (.int a)), some (.fr .non)]) rfl (by
    have fin : ∀ (e : E) (j : Nat) (r : FJ.Env) (hf : ∀ i, (f i).length ≤ 4), ev (.comp e (.name j) (.lst (.idx (.var 0) (.cst (.int 1)))) .no) r = .ok (.v (.ow (.lst (l.map fun i => intL (f i))))) r → True := fun _ _ _ _ _ => trivial
    have s2 : biD .sum2 [.lst (l.map fun i => intL (f i)), .lst []] = some (.ow (intL (cat f l))) := by
      have hn : (l.map fun i => intL (f i)) ≠ [] := by simpa using h0
      simp only [biD, lists_map]
      have hf : (cat f l).length ≤ 40 := by
        rcases hk with ⟨_, rfl⟩ | ⟨_, rfl⟩
        · rw [cat_len (k := 4) (fun i => by simp [four, two])]; omega
        · rw [cat_len (k := 2) (fun i => by simp [two])]; omega
      have hz : ([] ++ (cat f l).map D.int).length ≤ sizeLine := by simp; omega
      rw [flat_map, if_pos ⟨hn, hz⟩]
      simp [intL]
    have s3 : binD .add (intL (two l.length)) (intL (cat f l)) = some (.ow (intL (two l.length ++ cat f l))) := by
      refine add_ints _ _ ?_
      have hf : (cat f l).length ≤ 40 := by
        rcases hk with ⟨_, rfl⟩ | ⟨_, rfl⟩
        · rw [cat_len (k := 4) (fun i => by simp [four, two])]; omega
        · rw [cat_len (k := 2) (fun i => by simp [two])]; omega
      simp [two]; omega
    have ln : biD .len [intL l] = some (.fr (.int l.length)) := by simp [biD, intL]
    rcases hk with ⟨rfl, rfl⟩ | ⟨rfl, rfl⟩
    · have hc : ev (.comp (.call F_four_cells (.ci (.var 4) .nil)) (.name 4) (.lst (.idx (.var 0) (.cst (.int 1)))) .no) [some (.fr (.tup [.str (Str.ofString "numbers"), intL l])), some (.fr (.int a)), some (.fr .non), some (.fr (.str (Str.ofString "numbers"))), none, none, none] =
          .ok (.v (.ow (.lst (l.map fun i => intL (four i))))) [some (.fr (.tup [.str (Str.ofString "numbers"), intL l])), some (.fr (.int a)), some (.fr .non), some (.fr (.str (Str.ofString "numbers"))), none, none, none] := by
        refine ev_comp (ds := l.map .int) (hid := none) (r0 := [some (.fr (.tup [.str (Str.ofString "numbers"), intL l])), some (.fr (.int a)), some (.fr .non), some (.fr (.str (Str.ofString "numbers"))), none, none, none]) (r1 := [some (.fr (.tup [.str (Str.ofString "numbers"), intL l])), some (.fr (.int a)), some (.fr .non), some (.fr (.str (Str.ofString "numbers"))), none, none, none]) (by simp [evi, idxD, at_, atI, ixN, seqD, intL]) rfl ?_
        have := compL_mapT (cf := fun r => evc .no r) (ef := fun r => ev (.call F_four_cells (.ci (.var 4) .nil)) r) (i := 4) (r := [some (.fr (.tup [.str (Str.ofString "numbers"), intL l])), some (.fr (.int a)), some (.fr .non), some (.fr (.str (Str.ofString "numbers"))), none, none, none]) (g := fun d => match d with | .int i => intL (four i) | _ => .non) (ds := l.map .int) (acc := []) rfl (by intro d hd; simp) (by
          intro d hd
          obtain ⟨i, hi, rfl⟩ := List.mem_map.mp hd
          refine ⟨.ow (intL (four i)), ?_, by simp⟩
          simp [four_run]) (by simp; omega)
        simpa [hideE, wipeE, Tg.slots, Function.comp_def] using this
      simp [b_cells_of, E.pu, Es.pu, Ar.pu, cmpD, ofS_beq, ofS_inj, hc, two_run, ln, l0, s2, s3, idxD, at_, atI, ixN]
    · have hc : ev (.comp (.call F_two_cells (.ci (.var 5) .nil)) (.name 5) (.lst (.idx (.var 0) (.cst (.int 1)))) .no) [some (.fr (.tup [.str (Str.ofString "table"), intL l])), some (.fr (.int a)), some (.fr .non), some (.fr (.str (Str.ofString "table"))), none, none, none] =
          .ok (.v (.ow (.lst (l.map fun i => intL (two i))))) [some (.fr (.tup [.str (Str.ofString "table"), intL l])), some (.fr (.int a)), some (.fr .non), some (.fr (.str (Str.ofString "table"))), none, none, none] := by
        refine ev_comp (ds := l.map .int) (hid := none) (r0 := [some (.fr (.tup [.str (Str.ofString "table"), intL l])), some (.fr (.int a)), some (.fr .non), some (.fr (.str (Str.ofString "table"))), none, none, none]) (r1 := [some (.fr (.tup [.str (Str.ofString "table"), intL l])), some (.fr (.int a)), some (.fr .non), some (.fr (.str (Str.ofString "table"))), none, none, none]) (by simp [evi, idxD, at_, atI, ixN, seqD, intL]) rfl ?_
        have := compL_mapT (cf := fun r => evc .no r) (ef := fun r => ev (.call F_two_cells (.ci (.var 5) .nil)) r) (i := 5) (r := [some (.fr (.tup [.str (Str.ofString "table"), intL l])), some (.fr (.int a)), some (.fr .non), some (.fr (.str (Str.ofString "table"))), none, none, none]) (g := fun d => match d with | .int i => intL (two i) | _ => .non) (ds := l.map .int) (acc := []) rfl (by intro d hd; simp) (by
          intro d hd
          obtain ⟨i, hi, rfl⟩ := List.mem_map.mp hd
          refine ⟨.ow (intL (two i)), ?_, by simp⟩
          simp [two_run]) (by simp; omega)
        simpa [hideE, wipeE, Tg.slots, Function.comp_def] using this
      simp [b_cells_of, E.pu, Es.pu, Ar.pu, cmpD, ofS_beq, ofS_inj, hc, two_run, ln, l0, s2, s3, idxD, at_, atI, ixN])
  rw [← g2, ← g3]; exact g1

end FL
namespace FL
open PySem L2 FJ
/-! ### lists read -/
theorem cat_at {L l : List Int} {f : Int → List Int} {a i : Int} {s k : Nat} (hf : ∀ i, (f i).length = s) (h : At L a (cat f l)) (hk : l[k]? = some i) : At L (a + s * k) (f i) := by
  obtain ⟨hlt, hk⟩ := List.getElem?_eq_some_iff.mp hk
  have e : l = l.take k ++ ([i] ++ l.drop (k + 1)) := by
    rw [← hk]; simp
  have e2 : cat f l = cat f (l.take k) ++ (f i ++ cat f (l.drop (k + 1))) := by
    conv => lhs; rw [e]
    simp [cat]
  rw [e2] at h
  have h1 := h.right.left
  rw [cat_len hf, List.length_take, show min k l.length = k by omega] at h1
  simpa using h1
theorem list_run {L : List Int} {a : Int} {n s : Nat} {N S : Int} (hN : N = n) (hS : S = s) (hl : L.length ≤ 100000) (h : At L a (two N)) (hn : n ≤ 10) (hs : s = 2 ∨ s = 4) (g : Nat → List Int) (hg : ∀ k, k < n → At L (a + 2 + S * k) (g k) ∧ (g k).length = s) :
    F_read_list.run [.fr (intL L), .fr (.int a), .fr (.int S)] = some (.nt [.ow (intL ((List.range n).map fun k => val (g k))), .fr (.int (a + 2 + S * N))], [some (.fr (intL L)), some (.fr (.int a)), some (.fr (.int S))]) := by
  have big := line_big2
  obtain ⟨h0, h1⟩ := h.bd
  have e2 : (two N).length = 2 := rfl
  rw [e2] at h1
  have wi := within_run (L := L) h0 (by omega)
  have w2 := wide_run (m := 2) h rfl hl big
  rw [val_two] at w2
  have l2 : 2 ≤ sizeLine := by omega
  have mk : ∀ j : Int, mulOk S j = true := fun j => by
    unfold mulOk; rw [Bool.or_eq_true, decide_eq_true_eq]; left; omega
  have hc : ev (.comp (.call F_wide (.ci (.var 0) (.ci (.bin .add (.bin .add (.var 1) (.cst (.int 2))) (.bin .mul (.var 2) (.var 5))) (.ci (.var 2) .nil)))) (.name 5) (.rng (.cons (.var 3) .nil)) .no) [some (.fr (intL L)), some (.fr (.int a)), some (.fr (.int S)), some (.fr (.int N)), none, none] =
      .ok (.v (.ow (intL ((List.range n).map fun k => val (g k))))) [some (.fr (intL L)), some (.fr (.int a)), some (.fr (.int S)), some (.fr (.int N)), none, none] := by
    have q1 : -4611686018427387904 ≤ N := by omega
    have q2 : N < 4611686018427387904 := by omega
    have q3 : N.toNat = n := by omega
    have hr := ev_comp (e := .call F_wide (.ci (.var 0) (.ci (.bin .add (.bin .add (.var 1) (.cst (.int 2))) (.bin .mul (.var 2) (.var 5))) (.ci (.var 2) .nil)))) (tg := .name 5) (it := .rng (.cons (.var 3) .nil)) (cd := .no) (ds := (List.range n).map fun (i : Nat) => D.int i) (out := (List.range n).map fun k => D.int (val (g k))) (hid := none) (r := [some (.fr (intL L)), some (.fr (.int a)), some (.fr (.int S)), some (.fr (.int N)), none, none]) (r0 := [some (.fr (intL L)), some (.fr (.int a)), some (.fr (.int S)), some (.fr (.int N)), none, none]) (r1 := [some (.fr (intL L)), some (.fr (.int a)), some (.fr (.int S)), some (.fr (.int N)), none, none]) (by simp [evi, rngD, q1, q2, q3]) rfl (by
      have := compL_map (cf := fun r => evc .no r) (ef := fun r => ev (.call F_wide (.ci (.var 0) (.ci (.bin .add (.bin .add (.var 1) (.cst (.int 2))) (.bin .mul (.var 2) (.var 5))) (.ci (.var 2) .nil)))) r) (i := 5) (r := [some (.fr (intL L)), some (.fr (.int a)), some (.fr (.int S)), some (.fr (.int N)), none, none]) (g := fun d => match d with | .int k => .int (val (g k.toNat)) | _ => .non) (ds := (List.range n).map fun (i : Nat) => D.int i) (acc := []) rfl (by intro d hd; simp) (by
        intro d hd
        obtain ⟨k, hk, rfl⟩ := List.mem_map.mp hd
        obtain ⟨g1, g2⟩ := hg k (List.mem_range.mp hk)
        have w := wide_run (m := S) g1 (by rw [g2]; exact hS) hl big
        simp [E.pu, Ar.pu, binD, mk, w]) (by simp; omega)
      simpa [hideE, wipeE, Tg.slots, Function.comp_def] using this)
    rw [hr]
    simp [showE, backE, hideE, Tg.slots, intL, Function.comp_def]
  obtain ⟨t, rp, g1, g2, g3⟩ := run_by (n := 6) (io := [false, false, false]) (b := b_read_list) (ts := [.fr (intL L), .fr (.int a), .fr (.int S)])
    (Q := fun t rp => t = .nt [.ow (intL ((List.range n).map fun k => val (g k))), .fr (.int (a + 2 + S * N))] ∧ rp = [some (.fr (intL L)), some (.fr (.int a)), some (.fr (.int S))]) rfl (by
    simp [b_read_list, E.pu, Es.pu, Ar.pu, binD, wi, w2, hc, mk, l2])
  rw [← g2, ← g3]; exact g1
theorem range_map {l : List Int} {h : Nat → Int} (e : ∀ k i, l[k]? = some i → h k = i) : (List.range l.length).map h = l := by
  apply List.ext_getElem (by simp)
  intro k h1 h2
  simp
  exact e k _ (List.getElem?_eq_getElem h2)
theorem some_get {l : List Int} {k : Nat} (h : k < l.length) : l[k]? = some (l.getD k 0) := by
  rw [List.getD_eq_getElem?_getD, List.getElem?_eq_getElem h]; rfl
theorem list_cat {L l : List Int} {a : Int} {s : Nat} {f : Int → List Int} (hl : L.length ≤ 100000) {S : Int} (hS : S = s) (h : At L a (two l.length ++ cat f l)) (hn : l.length ≤ 10) (hs : s = 2 ∨ s = 4) (hf : ∀ i, (f i).length = s) :
    F_read_list.run [.fr (intL L), .fr (.int a), .fr (.int S)] = some (.nt [.ow (intL (l.map fun i => val (f i))), .fr (.int (a + 2 + S * l.length))], [some (.fr (intL L)), some (.fr (.int a)), some (.fr (.int S))]) := by
  have hr : At L (a + 2) (cat f l) := by
    have := h.right
    simpa [two] using this
  have := list_run rfl hS hl h.left hn hs (fun k => f (l.getD k 0)) fun k hk => ⟨by rw [hS]; exact cat_at hf hr (some_get hk), hf _⟩
  rw [this]
  have e : ((List.range l.length).map fun k => val (f (l.getD k 0))) = l.map fun i => val (f i) := by
    apply List.ext_getElem (by simp)
    intro k h1 h2
    simp at h1 h2
    simp [List.getD_eq_getElem?_getD, List.getElem?_eq_getElem h1]
  rw [e]
theorem table_run {L l : List Int} {a : Int} (hl : L.length ≤ 100000) (h : At L a (two l.length ++ cat two l)) (hn : l.length ≤ 10) :
    F_read_table.run [.fr (intL L), .fr (.int a)] = some (.nt [.ow (intL l), .fr (.int (a + 2 + 2 * l.length))], [some (.fr (intL L)), some (.fr (.int a))]) := by
  have w := list_cat (s := 2) (S := 2) hl rfl h hn (.inl rfl) (fun _ => rfl)
  have e : (l.map fun i => val (two i)) = l := by simp [val_two]
  rw [e] at w
  obtain ⟨t, rp, g1, g2, g3⟩ := run_by (n := 2) (io := [false, false]) (b := b_read_table) (ts := [.fr (intL L), .fr (.int a)])
    (Q := fun t rp => t = .nt [.ow (intL l), .fr (.int (a + 2 + 2 * l.length))] ∧ rp = [some (.fr (intL L)), some (.fr (.int a))]) rfl (by
    have w' : F_read_list.run [.fr (intL L), .fr (.int a), .fr (.int 2)] = _ := w
    simp [b_read_table, E.pu, Ar.pu, w'])
  rw [← g2, ← g3]; exact g1
theorem table_any {L : List Int} {a : Int} {n : Nat} (hl : L.length ≤ 100000) (h : At L a (two n)) (hn : n ≤ 10) (hb : a + 2 + 2 * n ≤ L.length) :
    ∃ x, F_read_table.run [.fr (intL L), .fr (.int a)] = some (x, [some (.fr (intL L)), some (.fr (.int a))]) := by
  have w := list_run (s := 2) (S := 2) rfl rfl hl h hn (.inl rfl) (fun k => (L.drop (a + 2 + 2 * k).toNat).take 2) fun k hk => by
    have := h.bd
    have h1 : a + 2 + 2 * (k : Int) + (2 : Nat) ≤ L.length := by omega
    refine ⟨At.drop (by omega) h1, ?_⟩
    rw [List.length_take, List.length_drop]; omega
  obtain ⟨t, rp, g1, g2⟩ := run_by (n := 2) (io := [false, false]) (b := b_read_table) (ts := [.fr (intL L), .fr (.int a)])
    (Q := fun t rp => rp = [some (.fr (intL L)), some (.fr (.int a))]) rfl (by
    have w' : F_read_list.run [.fr (intL L), .fr (.int a), .fr (.int 2)] = _ := w
    simp [b_read_table, E.pu, Ar.pu, w'])
  exact ⟨t, by rw [← g2]; exact g1⟩
theorem numbers_run {L l : List Int} {a : Int} (hl : L.length ≤ 100000) (h : At L a (two l.length ++ cat four l)) (hn : l.length ≤ 10) (hb : ∀ i ∈ l, -2147483648 ≤ i ∧ i < 2147483648) :
    F_read_numbers.run [.fr (intL L), .fr (.int a)] = some (.nt [.ow (intL l), .fr (.int (a + 2 + 4 * l.length))], [some (.fr (intL L)), some (.fr (.int a))]) := by
  have big := line_big2
  have l2 : 2 ≤ sizeLine := by omega
  have w := list_cat (s := 4) (S := 4) hl rfl h hn (.inr rfl) (fun _ => rfl)
  have hc : ∀ b : Option T, ev (.comp (.call F_signed (.ci (.var 4) (.ci (.cst (.int 4294967296)) .nil))) (.name 4) (.lst (.var 2)) .no) [some (.fr (intL L)), some (.fr (.int a)), some (.fr (intL (l.map fun i => val (four i)))), b, none] =
      .ok (.v (.ow (intL l))) [some (.fr (intL L)), some (.fr (.int a)), some (.fr (intL (l.map fun i => val (four i)))), b, none] := fun b => by
    have hr := ev_comp (e := .call F_signed (.ci (.var 4) (.ci (.cst (.int 4294967296)) .nil))) (tg := .name 4) (it := .lst (.var 2)) (cd := .no) (ds := l.map fun i => D.int (val (four i))) (out := l.map D.int) (hid := none) (r := [some (.fr (intL L)), some (.fr (.int a)), some (.fr (intL (l.map fun i => val (four i)))), b, none]) (r0 := [some (.fr (intL L)), some (.fr (.int a)), some (.fr (intL (l.map fun i => val (four i)))), b, none]) (r1 := [some (.fr (intL L)), some (.fr (.int a)), some (.fr (intL (l.map fun i => val (four i)))), b, none]) (by simp [evi, seqD, intL]) rfl (by
      have := compL_map (cf := fun r => evc .no r) (ef := fun r => ev (.call F_signed (.ci (.var 4) (.ci (.cst (.int 4294967296)) .nil))) r) (i := 4) (r := [some (.fr (intL L)), some (.fr (.int a)), some (.fr (intL (l.map fun i => val (four i)))), b, none]) (g := fun d => match d with | .int k => .int (sgn k 4294967296) | _ => .non) (ds := l.map fun i => D.int (val (four i))) (acc := []) rfl (by intro d hd; simp) (by
        intro d hd
        obtain ⟨k, hk, rfl⟩ := List.mem_map.mp hd
        simp [signed_run]) (by simp; omega)
      have e : (l.map fun i => D.int (sgn (val (four i)) 4294967296)) = l.map D.int := List.map_congr_left fun i hi => by rw [sgn_four (hb i hi).1 (hb i hi).2]
      simpa [hideE, wipeE, Tg.slots, Function.comp_def, e] using this)
    rw [hr]
    simp [showE, backE, hideE, Tg.slots, intL]
  obtain ⟨t, rp, g1, g2, g3⟩ := run_by (n := 5) (io := [false, false]) (b := b_read_numbers) (ts := [.fr (intL L), .fr (.int a)])
    (Q := fun t rp => t = .nt [.ow (intL l), .fr (.int (a + 2 + 4 * l.length))] ∧ rp = [some (.fr (intL L)), some (.fr (.int a))]) rfl (by
    have w' : F_read_list.run [.fr (intL L), .fr (.int a), .fr (.int 4)] = _ := w
    simp [b_read_numbers, E.pu, Ar.pu, w', hc, Tg.bind, Tg.binds, l2])
  rw [← g2, ← g3]; exact g1
end FL
namespace FL
open PySem L2 FJ
theorem cmpbles_refl (n : Nat) (h : ∀ d, D.plain n d = true → cmpble n d d = true) : ∀ xs, D.plains n xs = true → cmpbles n xs xs = true
  | [], _ => by simp [cmpbles]
  | x :: xs, hp => by
    simp only [D.plains, Bool.and_eq_true] at hp
    simp [cmpbles, h x hp.1, cmpbles_refl n h xs hp.2]
theorem cmpble_refl : ∀ (n : Nat) (d : D), D.plain n d = true → cmpble n d d = true
  | 0, d, h => by cases d <;> simp [cmpble, h]
  | n + 1, d, h => by
    cases d with
    | tup xs =>
      simp only [D.plain] at h
      simp only [cmpble]
      exact cmpbles_refl n (cmpble_refl n) xs h
    | lst xs =>
      simp only [D.plain] at h
      simp only [cmpble, cmpbles_refl n (cmpble_refl n) xs h, Bool.or_true]
    | _ => simp [cmpble, h]
theorem eqD_refl (d : D) (h : D.plain 60 d = true) : eqD d d = some true := by
  simp [eqD, cmpble_refl 60 d h, eqv_self 60 d h]
def Item (L : List Int) (d : D) : Prop :=
  (∃ (a : Int) (row near : D) (cs : List Int) (e : Int), d = .tup [.int a, row, near, .int e] ∧ e = a + cs.length ∧ At L a cs ∧ RowX a row near cs) ∨
  (∃ (a : Int) (k : String) (f : Int → List Int) (l : List Int) (e : Int), d = .tup [.int a, .tup [.str (Str.ofString k), intL l], .non, .int e] ∧ e = a + (two l.length ++ cat f l).length ∧ At L a (two l.length ++ cat f l) ∧ l ≠ [] ∧ l.length ≤ 10 ∧
    (k = "numbers" ∧ f = four ∧ (∀ i ∈ l, -2147483648 ≤ i ∧ i < 2147483648) ∨ k = "table" ∧ f = two))
theorem Item.mono {L : List Int} {d : D} (M : List Int) (h : Item L d) : Item (L ++ M) d := by
  rcases h with ⟨a, row, near, cs, e, h1, h2, h3, h4⟩ | ⟨a, k, f, l, e, h1, h2, h3, h4⟩
  · exact .inl ⟨a, row, near, cs, e, h1, h2, h3.mono M, h4⟩
  · exact .inr ⟨a, k, f, l, e, h1, h2, h3.mono M, h4⟩
theorem app9 {r : FJ.Env} {l : List Int} {b : T} (h : r[7]? = some (some (.nt [.ow (intL l), b]))) (hl : l.length < sizeLine) : evS (.appP 7 0 (.cst (.int 9))) r = .nx (r.set 7 (some (.nt [.ow (intL (l ++ [9])), b]))) := by
  rw [evS_appP (x := .v (.fr (.int 9))) (r1 := r) (ds := l.map D.int) (by simp [E.pu]) h rfl (by simp) (by simpa using h) (by simpa using hl)]
  simp [intL]
def IAR (L : List Int) (rows : List D) (k : Nat) (r : FJ.Env) : Prop := ∃ (t2 : T) (x3 x4 x5 x6 x7 : Option T), (t2 = .ow (intL L) ∨ t2 = .fr (intL L)) ∧ r = [some (.fr (intL L)), some (.fr (.lst rows)), some t2, x3, x4, x5, x6, x7]
theorem in_no {k : String} (k1 : (k == "numbers") = false) (k2 : (k == "table") = false) : inD (.str (Str.ofString k)) (.tup [.str "numbers", .str "table"]) = some false := by
  have k1' : ("numbers" == k) = false := by rw [BEq.comm]; exact k1
  have k2' : ("table" == k) = false := by rw [BEq.comm]; exact k2
  simp only [inD, D.plain, D.plains, D.py, PyData.eqv, ofS_beq, List.any, k1', k2']
  rfl
theorem idx0 (d : D) (ps : List D) : idxD (.tup (d :: ps)) (.int 0) = some d := by
  simp [idxD, at_, atI, ixN]
theorem all_run {L : List Int} {rows : List D} (hl : L.length ≤ 100000) (hI : ∀ d ∈ rows, Item L d) : F__law_all_read.run [.fr (intL L), .fr (.lst rows)] = some (.fr (.bl true), [some (.fr (intL L)), some (.fr (.lst rows))]) := by
  have big := line_big2
  have l2 : 2 ≤ sizeLine := by omega
  have l3 : 3 ≤ sizeLine := by omega
  have bl : biD .list [intL L] = some (.ow (intL L)) := rfl
  obtain ⟨t, rp, g1, g2, g3⟩ := run_by (n := 8) (io := [false, false]) (b := b__law_all_read) (ts := [.fr (intL L), .fr (.lst rows)])
    (Q := fun t rp => t = .fr (.bl true) ∧ rp = [some (.fr (intL L)), some (.fr (.lst rows))]) rfl (by
    simp [b__law_all_read, E.pu, Es.pu, bl]
    refine WP_for (ds := rows) (hid := none) (r1 := [some (.fr (intL L)), some (.fr (.lst rows)), some (.ow (intL L)), none, none, none, none, none]) (IAR L rows) (by simp [evi, seqD]) ⟨_, _, _, _, _, _, .inl rfl, rfl⟩ rfl ?_ ?_
    · rintro i d r hd ⟨t2, x3, x4, x5, x6, x7, ht2, rfl⟩
      rcases hI d (List.mem_of_getElem? hd) with ⟨a, row, near, cs, e, rfl, he, hat, k, ps, rfl, k1, k2, hp, hn, hc, _, hcs, hr⟩ | ⟨a, k, f, l, e, rfl, he, hat, l0, l1, hk⟩
      · refine ⟨_, rfl, ?_⟩
        have e1 := hr L e hl hat he
        have e2 := told_run [.tup (.str (Str.ofString k) :: ps), near, .int e] 3
        have e3 : sliD (intL L) (some a) (some e) = some (.ow (intL cs)) := by simp only [sliD, intL]; rw [hat.cut he]
        have hpn : D.plain 59 near = true := by rcases hn with rfl | ⟨q, rfl⟩ <;> simp [D.plain]
        have e4 := eqD_refl (.tup [.tup (.str (Str.ofString k) :: ps), near, .int e]) (by
          show D.plains 59 [.tup (.str (Str.ofString k) :: ps), near, .int e] = true
          rw [D.plains, D.plains, hp, hpn]
          rfl)
        have e5 := eqD_ints cs
        have e6 := in_no k1 k2
        have e7 := idx0 (.str (Str.ofString k)) ps
        have e8 := idx0 (.tup (.str (Str.ofString k) :: ps)) [near, .int e]
        have e9 : idxD (.tup [.tup (.str (Str.ofString k) :: ps), near, .int e]) (.int 1) = some near := by simp [idxD, at_, atI, ixN]
        rcases ht2 with rfl | rfl <;> rcases hn with rfl | ⟨q, rfl⟩ <;> simp only [WP] <;>
          simp [E.pu, Es.pu, Ar.pu, Oe.pu, e1, e2, e3, e4, e5, e6, e7, e8, e9, cmpD, isD, hc, frz, atomD, l2, l3] <;>
          exact ⟨_, _, _, _, _, _, .inr rfl, rfl⟩
      · refine ⟨_, rfl, ?_⟩
        have e3 : sliD (intL L) (some a) (some e) = some (.ow (intL (two l.length ++ cat f l))) := by simp only [sliD, intL]; rw [hat.cut he]
        have e5 := eqD_ints (two l.length ++ cat f l)
        have e2 := told_run [intL l, .int e] 2
        have e4 := eqD_refl (.tup [intL l, .int e]) (by simp [D.plain, D.plains, intL, plain_ints])
        have e6 : inD (.str (Str.ofString k)) (.tup [.str "numbers", .str "table"]) = some true := by
          rcases hk with ⟨rfl, _⟩ | ⟨rfl, _⟩ <;> simp [inD, D.plain, D.plains, D.py, PyData.eqv, ofS_beq]
        have e7 := idx0 (.str (Str.ofString k)) [intL l]
        have e9 : idxD (.tup [.str (Str.ofString k), intL l]) (.int 1) = some (intL l) := by simp [idxD, at_, atI, ixN]
        have i1 : isD .list (intL l) = some true := rfl
        have e10 := idx0 (intL l) [.int e]
        have hz : l.length < sizeLine := by omega
        rcases hk with ⟨rfl, rfl, hb⟩ | ⟨rfl, rfl⟩
        · have hc := cells_list l l0 l1 a "numbers" four (.inl ⟨rfl, rfl⟩)
          have len : (two l.length ++ cat four l).length = 2 + 4 * l.length := by rw [List.length_append, cat_len (k := 4) fun _ => rfl]; rfl
          have bd := hat.bd
          obtain ⟨x, e0⟩ := table_any hl hat.left l1 (by omega)
          have e1 := numbers_run hl hat l1 hb
          rw [show a + 2 + 4 * (l.length : Int) = e by rw [he, len]; omega] at e1
          rcases ht2 with rfl | rfl <;> simp only [WP] <;>
            (simp [E.pu, Es.pu, Ar.pu, Oe.pu, e0, e1, e2, e3, e4, e5, e6, e7, e9, e10, i1, cmpD, ofS_beq, hc, frz, atomD, l2, l3]
             rw [app9 (l := l) (b := .fr (.int e)) rfl hz]
             simp
             exact ⟨_, _, _, _, _, _, .inr rfl, rfl⟩)
        · have hc := cells_list l l0 l1 a "table" two (.inr ⟨rfl, rfl⟩)
          have len : (two l.length ++ cat two l).length = 2 + 2 * l.length := by rw [List.length_append, cat_len (k := 2) fun _ => rfl]; rfl
          have e1 := table_run hl hat l1
          rw [show a + 2 + 2 * (l.length : Int) = e by rw [he, len]; omega] at e1
          rcases ht2 with rfl | rfl <;> simp only [WP] <;>
            (simp [E.pu, Es.pu, Ar.pu, Oe.pu, e1, e2, e3, e4, e5, e6, e7, e9, e10, i1, cmpD, ofS_beq, hc, frz, atomD, l2, l3]
             rw [app9 (l := l) (b := .fr (.int e)) rfl hz]
             simp
             exact ⟨_, _, _, _, _, _, .inr rfl, rfl⟩)
    · rintro r ⟨t2, x3, x4, x5, x6, x7, ht2, rfl⟩
      rcases ht2 with rfl | rfl <;> simp [showE, E.pu, cmpD, eqD_ints])
  rw [← g2, ← g3]; exact g1
end FL
namespace FL
open PySem L2 FJ
def St (o : Option T) : Prop := o = none ∨ ∃ d, o = some (.fr d)
theorem back5 {s0 s1 s3 s4 s5 : Option T} {rest : FJ.Env} {t t2 : Option T} : showE none (backE (hideE none (s0 :: s1 :: t :: s3 :: s4 :: s5 :: rest)) (Tg.slots (.name 5)) (s0 :: s1 :: t2 :: s3 :: s4 :: none :: rest)) = s0 :: s1 :: t2 :: s3 :: s4 :: s5 :: rest := by
  simp [showE, backE, hideE, Tg.slots]
theorem comp5 {e : E} {es : Es} {Pv : Int → Prop} {s0 s1 s3 s4 s5 : Option T} {rest : FJ.Env} {n : Nat} {c : Int} {t1 : T} {r : FJ.Env} (h5 : St s5)
    (he : ∀ n t q, Src n t → n ≤ 999900 → ∃ v t', ev e (s0 :: s1 :: some t :: s3 :: s4 :: q :: rest) = .ok (.v (.fr (.int v))) (s0 :: s1 :: some t' :: s3 :: s4 :: q :: rest) ∧ Pv v ∧ Src (n + 2) t')
    (hr : evi (.rng es) r = .ok ((List.range c.toNat).map fun (i : Nat) => D.int i) none (s0 :: s1 :: some t1 :: s3 :: s4 :: s5 :: rest)) (hc : c ≤ 300) (s : Src n t1) (hn : n ≤ 900000) :
    ∃ (l : List Int) (t2 : T), ev (.comp e (.name 5) (.rng es) .no) r = .ok (.v (.ow (intL l))) (s0 :: s1 :: some t2 :: s3 :: s4 :: s5 :: rest) ∧ l.length = c.toNat ∧ (∀ i ∈ l, Pv i) ∧ Src (n + 2 * c.toNat) t2 := by
  have big := line_big2
  have hl : ((List.range c.toNat).map fun (i : Nat) => D.int i).length = c.toNat := by simp
  obtain ⟨out, r', g1, g2, g3, t2, rfl, s2⟩ := compL_ind (cf := fun r => evc .no r) (ef := fun r => ev e r) (i := 5) (N := 300) (Pv := fun d => ∃ i, d = .int i ∧ Pv i) (fun k r => ∃ t', r = s0 :: s1 :: some t' :: s3 :: s4 :: none :: rest ∧ Src (n + 2 * k) t') (ds := (List.range c.toNat).map fun (i : Nat) => D.int i) (n := 0) (r := s0 :: s1 :: some t1 :: s3 :: s4 :: none :: rest) (acc := []) (by rw [hl]; omega) ⟨t1, rfl, s⟩ (by rw [hl]; simp; omega) (by
    rintro k d r hk hd ⟨t', rfl, st⟩
    obtain ⟨w, t'', x1, x2, x3⟩ := he _ _ (some (.fr d)) st (by omega)
    refine ⟨by simp, .int w, s0 :: s1 :: some t'' :: s3 :: s4 :: some (.fr d) :: rest, ?_, ⟨w, rfl, x2⟩, t'', rfl, x3.mono (by omega)⟩
    simpa using x1)
  obtain ⟨l, rfl, hp⟩ := ints_of g3
  rw [hl] at s2 g2
  refine ⟨l, t2, ?_, by simpa using g2, hp, s2.mono (by omega)⟩
  have hs : stillE (hideE none (s0 :: s1 :: some t1 :: s3 :: s4 :: s5 :: rest)) (Tg.slots (.name 5)) = true := by
    rcases h5 with rfl | ⟨d, rfl⟩ <;> rfl
  have := ev_comp (e := e) (tg := .name 5) (cd := .no) hr hs (by simpa [hideE, wipeE, Tg.slots] using g1)
  rw [this, back5]
  rfl
theorem rng_next {s0 s1 s3 s4 s5 : Option T} {rest : FJ.Env} {n : Nat} {t : T} {many : Int} (lo : Bool) (s : Src n t) (hn : n ≤ 999999) (h0 : 0 < many) (h2 : many ≤ 250) (h1 : divOk many = true) :
    ∃ c t1, evi (.rng (.cons (if lo then .bin .add (.cst (.int 1)) (.call F__law_next (.cx 2 (.ci (.cst (.int many)) .nil))) else .call F__law_next (.cx 2 (.ci (.cst (.int many)) .nil))) .nil)) (s0 :: s1 :: some t :: s3 :: s4 :: s5 :: rest) = .ok ((List.range c.toNat).map fun (i : Nat) => D.int i) none (s0 :: s1 :: some t1 :: s3 :: s4 :: s5 :: rest) ∧ (if lo then 1 ≤ c else 0 ≤ c) ∧ (if lo then c ≤ many else c < many) ∧ Src (n + 1) t1 := by
  obtain ⟨v, t1, e1, a1, b1, s1⟩ := next_run (many := many) s hn h0 h1
  cases lo
  · have q1 : -4611686018427387904 ≤ v := by omega
    have q2 : v < 4611686018427387904 := by omega
    exact ⟨v, t1, by simp [evi, e1, rngD, q1, q2], by simpa using a1, by simpa using b1, s1⟩
  · have q1 : -4611686018427387904 ≤ 1 + v := by omega
    have q2 : 1 + v < 4611686018427387904 := by omega
    exact ⟨1 + v, t1, by simp [evi, e1, binD, rngD, q1, q2], by simp; omega, by simp; omega, s1⟩
theorem draw_next {s0 s1 s3 s4 : Option T} {rest : FJ.Env} : ∀ n t q, Src n t → n ≤ 999900 → ∃ v t', ev (.call F__law_next (.cx 2 (.ci (.cst (.int 256)) .nil))) (s0 :: s1 :: some t :: s3 :: s4 :: q :: rest) = .ok (.v (.fr (.int v))) (s0 :: s1 :: some t' :: s3 :: s4 :: q :: rest) ∧ True ∧ Src (n + 2) t' := by
  intro n t q s hn
  obtain ⟨v, t1, e1, a1, b1, s1⟩ := next_run (many := 256) s (by omega) (by decide) (by decide)
  exact ⟨v, t1, by simp [e1], trivial, s1.mono (by omega)⟩
theorem draw_number {s0 s1 s3 s4 : Option T} {rest : FJ.Env} : ∀ n t q, Src n t → n ≤ 999900 → ∃ v t', ev (.call F__law_number (.cx 2 .nil)) (s0 :: s1 :: some t :: s3 :: s4 :: q :: rest) = .ok (.v (.fr (.int v))) (s0 :: s1 :: some t' :: s3 :: s4 :: q :: rest) ∧ (-2147483648 ≤ v ∧ v < 2147483648) ∧ Src (n + 2) t' := by
  intro n t q s hn
  obtain ⟨v, t1, e1, a1, b1, s1⟩ := number_run s (by omega)
  exact ⟨v, t1, by simp [e1], ⟨a1, b1⟩, s1⟩
theorem app_run {i : Nat} {r : FJ.Env} {ds : List D} {e : E} {d : D} {r2 : FJ.Env} (h : r[i]? = some (some (.ow (.lst ds)))) (he : ev e r = .ok (.v (.fr d)) r2) (h2 : r2[i]? = some (some (.ow (.lst ds)))) (hl : ds.length < sizeLine) : evS (.app i e) r = .nx (r2.set i (some (.ow (.lst (ds ++ [d]))))) := by
  rw [evS_app]
  simp [h, he, h2, hl]
/-- what stands while parts are put on: numbers drawn, cells, rows -/
def IR (sc : Option T) (n m b : Nat) (k : Nat) (r : FJ.Env) : Prop := ∃ (t : T) (L : List Int) (rows : List D) (x1 x5 x6 x7 x8 x9 x10 x11 : Option T), r = [sc, x1, some t, some (.ow (intL L)), some (.ow (.lst rows)), x5, x6, x7, x8, x9, x10, x11] ∧
  Src (n + 20 * k) t ∧ L.length ≤ m + 50 * k ∧ rows.length ≤ b + k ∧ (∀ d ∈ rows, Item L d) ∧ St x5 ∧ St x11
def IW (ns : List Int) (k : Nat) (r : FJ.Env) : Prop := ∃ x1 x2 x3 x4 x5 x6 x7 x8 x9 x10 x11 : Option T, r = [some (.fr (.scr ns)), x1, x2, x3, x4, x5, x6, x7, x8, x9, x10, x11] ∧ St x5 ∧ St x11
def bRow : S :=
  (.seq (.asg (.name 7) (.bi .len (.cons (.var 3) .nil)))
  (.seq (.asg (.tup [(.name 9), (.name 10)]) (.call F__law_row (.cx 2 (.ci (.var 7) .nil))))
  (.seq (.asg (.name 3) (.bin .add (.var 3) (.call F__law_cells (.ci (.var 9) (.ci (.var 7) (.ci (.var 10) .nil))))))
  (.app 4 (.tup (.cons (.var 7) (.cons (.var 9) (.cons (.var 10) (.cons (.bi .len (.cons (.var 3) .nil)) .nil)))))))))
def bLst : S :=
  (.seq (.asg (.name 8) (.comp (.call F__law_number (.cx 2 .nil)) (.name 5) (.rng (.cons (.bin .add (.cst (.int 1)) (.call F__law_next (.cx 2 (.ci (.cst (.int 6)) .nil)))) .nil)) .no))
  (.seq (.ife (.cmp .eq (.var 6) (.cst (.str "table")))
  (.asg (.name 8) (.comp (.bin .mod (.var 11) (.cst (.int 65536))) (.name 11) (.lst (.var 8)) .no))
  .pass)
  (.seq (.asg (.name 7) (.bi .len (.cons (.var 3) .nil)))
  (.seq (.asg (.name 3) (.bin .add (.var 3) (.call F_cells_of (.ci (.tup (.cons (.var 6) (.cons (.bi .list (.cons (.var 8) .nil)) .nil))) (.ci (.var 7) (.ci (.cst .non) .nil))))))
  (.app 4 (.tup (.cons (.var 7) (.cons (.tup (.cons (.var 6) (.cons (.var 8) .nil))) (.cons (.cst .non) (.cons (.bi .len (.cons (.var 3) .nil)) .nil))))))))))
theorem len_ints (L : List Int) : biD .len [intL L] = some (.fr (.int L.length)) := by simp [biD, intL]
theorem row_step {sc : Option T} {n m b k : Nat} {i : Nat} {x1 x6 x7 x8 x9 x10 x11 : Option T} {t : T} {L : List Int} {rows : List D} (hn : n ≤ 1000) (hm : m ≤ 300) (hk : k ≤ 10) (hb : b ≤ 100) (s : Src (n + 20 * k) t) (hL : L.length ≤ m + 50 * k) (hr : rows.length ≤ b + k) (hI : ∀ d ∈ rows, Item L d) (h11 : St x11) (B : FJ.Env → Prop) (P : T → FJ.Env → Prop) :
    WP (evS bRow [sc, x1, some t, some (.ow (intL L)), some (.ow (.lst rows)), some (.fr (.int i)), x6, x7, x8, x9, x10, x11]) (IR sc n m b (k + 1)) B (IR sc n m b (k + 1)) P := by
  have big := line_big2
  obtain ⟨row, near, t1, e1, s1, cs, hx⟩ := row_run (a := L.length) s (by omega) (by omega) (by omega)
  obtain ⟨kk, ps, _, _, _, _, _, _, e2, hcs, _⟩ := id hx
  have e3 := add_ints L cs (by omega)
  have l4 : 4 ≤ sizeLine := by omega
  have ln := len_ints
  simp only [WP, bRow]
  simp [E.pu, Es.pu, Ar.pu, ln, e1, e2, e3, Tg.bind, Tg.binds, frz]
  rw [app_run (ds := rows) (d := .tup [.int L.length, row, near, .int (L ++ cs).length]) rfl (by simp [E.pu, Es.pu, ln, l4]; rfl) rfl (by omega)]
  simp
  refine ⟨_, _, _, _, _, _, _, _, _, _, _, rfl, s1.mono (by omega), by simp; omega, by simp; omega, ?_, .inr ⟨_, rfl⟩, h11⟩
  intro d hd
  rcases List.mem_append.mp hd with hd | hd
  · exact (hI d hd).mono cs
  · rw [List.mem_singleton] at hd
    subst hd
    exact .inl ⟨_, _, _, cs, _, rfl, by simp, At.new L cs, hx⟩
theorem mod_comp {l : List Int} {s0 s1 s2 s3 s4 s5 s6 s7 s9 s10 s11 : Option T} (hl : l.length ≤ 300) (h : St s11) : ev (.comp (.bin .mod (.var 11) (.cst (.int 65536))) (.name 11) (.lst (.var 8)) .no) [s0, s1, s2, s3, s4, s5, s6, s7, some (.ow (intL l)), s9, s10, s11] = .ok (.v (.ow (intL (l.map (· % 65536))))) [s0, s1, s2, s3, s4, s5, s6, s7, some (.ow (intL l)), s9, s10, s11] := by
  have big := line_big2
  have hr := ev_comp (e := .bin .mod (.var 11) (.cst (.int 65536))) (tg := .name 11) (it := .lst (.var 8)) (cd := .no) (ds := l.map D.int) (out := (l.map (· % 65536)).map D.int) (hid := some (8, .ow (intL l))) (r := [s0, s1, s2, s3, s4, s5, s6, s7, some (.ow (intL l)), s9, s10, s11]) (r0 := [s0, s1, s2, s3, s4, s5, s6, s7, some (.ow (intL l)), s9, s10, s11]) (r1 := [s0, s1, s2, s3, s4, s5, s6, s7, none, s9, s10, none]) (by simp [evi, intL]) (by rcases h with rfl | ⟨d, rfl⟩ <;> rfl) (by
    have := compL_map (cf := fun r => evc .no r) (ef := fun r => ev (.bin .mod (.var 11) (.cst (.int 65536))) r) (i := 11) (r := [s0, s1, s2, s3, s4, s5, s6, s7, none, s9, s10, none]) (g := fun d => match d with | .int k => .int (k % 65536) | _ => .non) (ds := l.map D.int) (acc := []) rfl (by intro d hd; simp) (by
      intro d hd
      obtain ⟨k, hk, rfl⟩ := List.mem_map.mp hd
      simp [E.pu, binD]) (by simp; omega)
    simpa [hideE, wipeE, Tg.slots, Function.comp_def] using this)
  rw [hr]
  simp [showE, backE, hideE, Tg.slots, intL]
theorem lst_step {sc : Option T} {n m b k : Nat} {kind : String} {x1 x5 x7 x8 x9 x10 x11 : Option T} {t : T} {L : List Int} {rows : List D} (hkd : k = 0 ∧ kind = "numbers" ∨ k = 1 ∧ kind = "table") (hn : n ≤ 1000) (hm : m ≤ 1000) (hb : b ≤ 100) (s : Src (n + 20 * k) t) (hL : L.length ≤ m + 50 * k) (hr : rows.length ≤ b + k) (hI : ∀ d ∈ rows, Item L d) (h5 : St x5) (h11 : St x11) (B : FJ.Env → Prop) (P : T → FJ.Env → Prop) :
    WP (evS bLst [sc, x1, some t, some (.ow (intL L)), some (.ow (.lst rows)), x5, some (.fr (.str (Str.ofString kind))), x7, x8, x9, x10, x11]) (IR sc n m b (k + 1)) B (IR sc n m b (k + 1)) P := by
  have big := line_big2
  have l2 : 2 ≤ sizeLine := by omega
  have l4 : 4 ≤ sizeLine := by omega
  have ln := len_ints
  have bl : ∀ l, biD .list [intL l] = some (.ow (intL l)) := fun _ => rfl
  obtain ⟨c, t1, e1, c0, c1, s1⟩ := rng_next (s0 := sc) (s1 := x1) (s3 := some (.ow (intL L))) (s4 := some (.ow (.lst rows))) (s5 := x5) (rest := [some (.fr (.str (Str.ofString kind))), x7, x8, x9, x10, x11]) (many := 6) true s (by omega) (by decide) (by decide) (by decide)
  simp only [if_true] at e1 c0 c1
  obtain ⟨l, t2, e2, ll, hl, s2⟩ := comp5 h5 draw_number e1 (by omega) s1 (by omega)
  have l0 : l ≠ [] := by
    intro z; rw [z] at ll; simp at ll; omega
  have l1 : l.length ≤ 6 := by omega
  simp only [WP, bLst]
  rcases hkd with ⟨rfl, rfl⟩ | ⟨rfl, rfl⟩
  · have hc := cells_list l l0 (by omega) L.length "numbers" four (.inl ⟨rfl, rfl⟩)
    have len : (two l.length ++ cat four l).length = 2 + 4 * l.length := by rw [List.length_append, cat_len (k := 4) fun _ => rfl]; rfl
    have e3 := add_ints L (two l.length ++ cat four l) (by omega)
    simp [E.pu, Es.pu, Ar.pu, e2, ofS_beq, cmpD, ln, bl, hc, e3, l2, frz]
    rw [app_run (ds := rows) (d := .tup [.int L.length, .tup [.str "numbers", intL l], .non, .int (L ++ (two l.length ++ cat four l)).length]) rfl (by simp [E.pu, Es.pu, ln, l4, l2, frz]; rfl) rfl (by omega)]
    simp
    refine ⟨_, _, _, _, _, _, _, _, _, _, _, rfl, s2.mono (by omega), by rw [← List.append_assoc] at *; simp only [List.length_append] at *; omega, by simp; omega, ?_, h5, h11⟩
    intro d hd
    rcases List.mem_append.mp hd with hd | hd
    · have := (hI d hd).mono (two l.length ++ cat four l)
      simpa using this
    · rw [List.mem_singleton] at hd
      subst hd
      refine .inr ⟨_, "numbers", four, l, _, rfl, by simp, ?_, l0, by omega, .inl ⟨rfl, rfl, hl⟩⟩
      have := At.new L (two l.length ++ cat four l)
      simpa using this
  · have e4 := mod_comp (s0 := sc) (s1 := x1) (s2 := some t2) (s3 := some (.ow (intL L))) (s4 := some (.ow (.lst rows))) (s5 := x5) (s6 := some (.fr (.str (Str.ofString "table")))) (s7 := x7) (s9 := x9) (s10 := x10) (l := l) (by omega) h11
    obtain ⟨l', hl'⟩ : ∃ z, l.map (· % 65536) = z := ⟨_, rfl⟩
    rw [hl'] at e4
    have ll' : l'.length = l.length := by rw [← hl', List.length_map]
    have l0' : l' ≠ [] := by
      intro z; rw [z] at ll'; simp at ll'; exact l0 (by simpa using ll'.symm)
    have hc := cells_list l' l0' (by omega) L.length "table" two (.inr ⟨rfl, rfl⟩)
    have len : (two l'.length ++ cat two l').length = 2 + 2 * l'.length := by rw [List.length_append, cat_len (k := 2) fun _ => rfl]; rfl
    have e3 := add_ints L (two l'.length ++ cat two l') (by omega)
    simp [E.pu, Es.pu, Ar.pu, e2, e4, ofS_beq, cmpD, ln, bl, hc, e3, l2, frz]
    rw [app_run (ds := rows) (d := .tup [.int L.length, .tup [.str "table", intL l'], .non, .int (L ++ (two l'.length ++ cat two l')).length]) rfl (by simp [E.pu, Es.pu, ln, l4, l2, frz]; rfl) rfl (by omega)]
    simp
    refine ⟨_, _, _, _, _, _, _, _, _, _, _, rfl, s2.mono (by omega), by rw [← List.append_assoc] at *; simp only [List.length_append] at *; omega, by simp; omega, ?_, h5, h11⟩
    intro d hd
    rcases List.mem_append.mp hd with hd | hd
    · have := (hI d hd).mono (two l'.length ++ cat two l')
      simpa using this
    · rw [List.mem_singleton] at hd
      subst hd
      refine .inr ⟨_, "table", two, l', _, rfl, by simp, ?_, l0', by omega, .inr ⟨rfl, rfl⟩⟩
      have := At.new L (two l'.length ++ cat two l')
      simpa using this
end FL
namespace FL
open PySem L2 FJ
theorem rng5 {s0 s1 s3 s4 s5 : Option T} {rest : FJ.Env} {n : Nat} {t : T} (s : Src n t) (hn : n ≤ 999999) :
    ∃ (c : Int) (t1 : T), evi (.rng (.cons (.bin .add (.cst (.int 1)) (.call F__law_next (.cx 2 (.ci (.cst (.int 5)) .nil)))) .nil)) (s0 :: s1 :: some t :: s3 :: s4 :: s5 :: rest) = .ok ((List.range c.toNat).map fun (i : Nat) => D.int i) none (s0 :: s1 :: some t1 :: s3 :: s4 :: s5 :: rest) ∧ 1 ≤ c ∧ c ≤ 5 ∧ Src (n + 1) t1 := by
  simpa using rng_next (s0 := s0) (s1 := s1) (s3 := s3) (s4 := s4) (s5 := s5) (rest := rest) (many := 5) true s hn (by decide) (by decide) (by decide)
theorem rng0 {s0 s1 s3 s4 s5 : Option T} {rest : FJ.Env} {n : Nat} {t : T} (many : Int) (s : Src n t) (hn : n ≤ 999999) (h0 : 0 < many) (h2 : many ≤ 250) (h1 : divOk many = true) :
    ∃ (c : Int) (t1 : T), evi (.rng (.cons (.call F__law_next (.cx 2 (.ci (.cst (.int many)) .nil))) .nil)) (s0 :: s1 :: some t :: s3 :: s4 :: s5 :: rest) = .ok ((List.range c.toNat).map fun (i : Nat) => D.int i) none (s0 :: s1 :: some t1 :: s3 :: s4 :: s5 :: rest) ∧ 0 ≤ c ∧ c < many ∧ Src (n + 1) t1 := by
  simpa using rng_next (s0 := s0) (s1 := s1) (s3 := s3) (s4 := s4) (s5 := s5) (rest := rest) (many := many) false s hn h0 h2 h1
theorem one_run {sc x5 x6 x7 x8 x9 x10 x11 x2 x3 x4 : Option T} {x : Int} (h5 : St x5) (h11 : St x11) (B : FJ.Env → Prop) (P : T → FJ.Env → Prop) (I : FJ.Env → Prop)
    (hI : ∀ y1 y2 y3 y4 y5 y6 y7 y8 y9 y10 y11, St y5 → St y11 → I [sc, y1, y2, y3, y4, y5, y6, y7, y8, y9, y10, y11]) :
    WP (evS (.seq (.asg (.name 2) (.call F__law_source (.ci (.var 1) .nil)))
  (.seq (.asg (.name 3) (.comp (.call F__law_next (.cx 2 (.ci (.cst (.int 256)) .nil))) (.name 5) (.rng (.cons (.call F__law_next (.cx 2 (.ci (.cst (.int 200)) .nil))) .nil)) .no))
  (.seq (.asg (.name 4) (.lst .nil))
  (.seq (.for (.name 5) (.rng (.cons (.bin .add (.cst (.int 1)) (.call F__law_next (.cx 2 (.ci (.cst (.int 5)) .nil)))) .nil)) bRow)
  (.seq (.for (.name 6) (.lst (.lst (.cons (.cst (.str "numbers")) (.cons (.cst (.str "table")) .nil)))) bLst)
  (.seq (.asg (.name 3) (.bin .add (.var 3) (.comp (.call F__law_next (.cx 2 (.ci (.cst (.int 256)) .nil))) (.name 5) (.rng (.cons (.call F__law_next (.cx 2 (.ci (.cst (.int 3)) .nil))) .nil)) .no)))
  (.ife (.not (.call F__law_all_read (.ci (.var 3) (.ci (.var 4) .nil))))
  (.ret (.cst (.bl false)))
  .pass))))))) [sc, some (.fr (.int x)), x2, x3, x4, x5, x6, x7, x8, x9, x10, x11]) I B I P := by
  have big := line_big2
  have l0 : (0 : Nat) ≤ sizeLine := by omega
  have l2 : 2 ≤ sizeLine := by omega
  obtain ⟨t0, e0, s0⟩ := source_run x
  obtain ⟨c1, t1, e1, a1, b1, s1⟩ := rng0 (s0 := sc) (s1 := some (.fr (.int x))) (s3 := x3) (s4 := x4) (s5 := x5) (rest := [x6, x7, x8, x9, x10, x11]) 200 s0 (by omega) (by decide) (by decide) (by decide)
  obtain ⟨L, t2, e2, ll, _, s2⟩ := comp5 h5 draw_next e1 (by omega) s1 (by omega)
  have hcl : c1.toNat ≤ 199 := by omega
  obtain ⟨c3, t3, e3, a3, b3, s3⟩ := rng5 (s0 := sc) (s1 := some (.fr (.int x))) (s3 := some (.ow (intL L))) (s4 := some (.ow (.lst []))) (s5 := x5) (rest := [x6, x7, x8, x9, x10, x11]) s2 (by omega)
  have s3 : Src 500 t3 := s3.mono (by omega)
  simp only [WP]
  simp [E.pu, Es.pu, Ar.pu, e0, e2, l0]
  refine WP_for (ds := (List.range c3.toNat).map fun (i : Nat) => D.int i) (hid := none) (IR sc 500 200 0) e3 ⟨t3, L, [], _, _, _, _, _, _, _, _, rfl, s3, by omega, by simp, by simp, h5, h11⟩ rfl ?_ ?_
  · rintro k d r hd ⟨t, L, rows, y1, y5, y6, y7, y8, y9, y10, y11, rfl, st, hL, hr, hI', h5', h11'⟩
    have hk : k < c3.toNat := by
      have := ltOf hd
      simpa using this
    obtain ⟨i, _, rfl⟩ := List.mem_map.mp (List.mem_of_getElem? hd)
    exact ⟨_, rfl, row_step (by omega) (by omega) (by omega) (by omega) st hL hr hI' h11' _ _⟩
  · rintro r ⟨t, L, rows, y1, y5, y6, y7, y8, y9, y10, y11, rfl, st, hL, hr, hI', h5', h11'⟩
    rw [List.length_map, List.length_range] at st hL hr
    simp only [showE, WP_seq]
    refine WP_for (ds := [.str "numbers", .str "table"]) (hid := none) (r1 := [sc, y1, some t, some (.ow (intL L)), some (.ow (.lst rows)), y5, y6, y7, y8, y9, y10, y11]) (IR sc 600 450 5) (by simp [evi, seqD, l2]) ⟨t, L, rows, _, _, _, _, _, _, _, _, rfl, st.mono (by omega), by omega, by omega, hI', h5', h11'⟩ rfl ?_ ?_
    · rintro k d r hd ⟨t, L, rows, y1, y5, y6, y7, y8, y9, y10, y11, rfl, st, hL, hr, hI', h5', h11'⟩
      match k, hd with
      | 0, hd =>
        cases hd
        exact ⟨_, rfl, lst_step (kind := "numbers") (.inl ⟨rfl, rfl⟩) (by omega) (by omega) (by omega) st hL hr hI' h5' h11' _ _⟩
      | 1, hd =>
        cases hd
        exact ⟨_, rfl, lst_step (kind := "table") (.inr ⟨rfl, rfl⟩) (by omega) (by omega) (by omega) st hL hr hI' h5' h11' _ _⟩
      | k + 2, hd => simp at hd
    · rintro r ⟨t, L, rows, y1, y5, y6, y7, y8, y9, y10, y11, rfl, st, hL, hr, hI', h5', h11'⟩
      simp only [List.length_cons, List.length_nil] at st hL hr
      obtain ⟨c4, t4, e4, a4, b4, s4⟩ := rng0 (s0 := sc) (s1 := y1) (s3 := some (.fr (intL L))) (s4 := some (.ow (.lst rows))) (s5 := y5) (rest := [y6, y7, y8, y9, y10, y11]) 3 st (by omega) (by decide) (by decide) (by decide)
      obtain ⟨M, t5, e5, lm, _, s5⟩ := comp5 h5' draw_next e4 (by omega) s4 (by omega)
      have e6 := add_ints L M (by omega)
      have e7 := all_run (L := L ++ M) (rows := rows) (by simp; omega) fun d hd => (hI' d hd).mono M
      simp only [showE]
      simp [E.pu, Es.pu, Ar.pu, It.pu, Oe.pu, frz, e5, e6, e7]
      exact hI _ _ _ _ _ _ _ _ _ _ _ h5' h11'
theorem law_runs (ns : List Int) (hl : ns.length ≤ 63) : ∃ rp, F_law.run [.fr (.scr ns)] = some (.fr (.bl true), rp) := by
  have big := line_big2
  have l1 : 1 ≤ sizeLine := by omega
  have hc : (cut ns none (some 20)).length + 1 ≤ sizeLine := by
    have : (cut ns none (some 20)).length ≤ ns.length := by
      unfold cut
      rw [List.length_take, List.length_drop]
      omega
    omega
  obtain ⟨t, rp, h1, h2⟩ := run_by (n := 12) (io := [false]) (b := b_law) (ts := [.fr (.scr ns)]) (Q := fun t rp => t = .fr (.bl true)) rfl (by
    simp only [b_law, WP_seq]
    refine WP_for (ds := ((cut ns none (some 20)) ++ [0]).map D.int) (hid := none) (r1 := [some (.fr (.scr ns)), none, none, none, none, none, none, none, none, none, none, none]) (IW ns) (by simp [evi, sliD, binD, seqD, l1, hc, Es.pu, E.pu]) ⟨_, _, _, _, _, _, _, _, _, _, _, rfl, .inl rfl, .inl rfl⟩ rfl ?_ ?_
    · rintro i d r hd ⟨x1, x2, x3, x4, x5, x6, x7, x8, x9, x10, x11, rfl, h5, h11⟩
      obtain ⟨x, rfl⟩ : ∃ x : Int, d = D.int x := by
        have := List.mem_of_getElem? hd
        obtain ⟨x, h1, h2⟩ := List.mem_map.mp this
        exact ⟨x, h2.symm⟩
      refine ⟨_, rfl, ?_⟩
      exact one_run h5 h11 _ _ _ fun y1 y2 y3 y4 y5 y6 y7 y8 y9 y10 y11 h5 h11 => ⟨_, _, _, _, _, _, _, _, _, _, _, rfl, h5, h11⟩
    · rintro r ⟨x1, x2, x3, x4, x5, x6, x7, x8, x9, x10, x11, rfl, h5, h11⟩
      simp [showE])
  exact ⟨rp, by rw [← h2]; exact h1⟩
end FL
open PySem PySem.W PySem.Calls PyProof.Rows
theorem PySem.Challenge.cw_farjump_k22_cells_read_back_holds : PySem.Challenge.rw_farjump_k22_cells_read_back.Holds := by
  w_on; o_law
  refine HandSHeadRun.head_any (r := OpenLaw.row PySem.Challenge.rw_farjump_k22_cells_read_back) (q := view (OpenLaw.row PySem.Challenge.rw_farjump_k22_cells_read_back).prog [36]) (H := FL.hk) (ob := FL.ob) (M := 40000) (loose := FL.loose) (d := HandSHeadRun.topDef (OpenLaw.row PySem.Challenge.rw_farjump_k22_cells_read_back).prog 36) (kwd := []) FL.ob_eq
    (by kernel_rfl) (fun s => by kernel_rfl) FL.run (by kernel_rfl) (by kernel_rfl) (by kernel_rfl) (by rfl) (by first | assumption | decide +kernel) (by decide +kernel) ⟨rfl, rfl, rfl, rfl, rfl, by decide +kernel⟩ ?hw ?hc
  case hw => w_witness2
  case hc =>
    refine L2.walk_ofE (l := PySem.Challenge.rw_farjump_k22_cells_read_back) (n := 63) (k := 5) (x := "_law_script") (CX := L2.CX0) rfl (by decide) (by kernel_rfl) ⟨rfl, by decide, by decide⟩ ?F (fun _ _ _ _ z => z)
    intro w mg fa h Y G hmg0
    obtain ⟨K, KX, c⟩ := Y
    have hmg : mg ("law" : PySem.Str) = some (.ref fa) := by
      have e : (HandSHeadRun.topDef (OpenLaw.row PySem.Challenge.rw_farjump_k22_cells_read_back).prog 36).name = ("law" : PySem.Str) := by kernel_rfl
      rw [← e]
      exact hmg0
    obtain ⟨fd, hb, hF⟩ := FL.facts (P := (PySem.Challenge.rw_farjump_k22_cells_read_back).prog) (w := w) KX G hmg c
    exact ⟨K, fd, _, KX, hb, fun H a ns hl _ hS => FJ.law_sp rfl rfl (FL.law_runs ns hl) hS (fun _ => rfl), hF⟩

