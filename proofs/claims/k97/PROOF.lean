import PyProof.Rows.All
import Wide.All
import OpenK.AllK
import Wide.FinOn
import PySem.Str
import HandS.ForMost
import HandS.ForExc
import HandS.Wide
import HandS.WideBits
import HandS.IsInst
import HandS.TupAny
import HandS.TupMul
import HandS.Style
import HandS.Gcd
import HandS.Rev
import HandS.Zip
import HandS.TryMany
import PyProof.Draws
import HandS.Comp
import HandS.Lambda
import HandS.EndBits
import PySem.Builtin.Int.Common
import PySem.Challenge.RW_rootgraph_k97_whole_one_root_and_the_cha
/-! The small language: values, cells, expressions, statements, and what they compute. No heap, no frame. -/
namespace RG
open PySem

/-- a value; ref: a cell of the store; obj: an instance that no longer changes; lst: a list that no longer changes; scr: the script -/
inductive D where
  | non | bl (b : Bool) | int (i : Int) | str (x : Str)
  | tup (xs : List D) | lst (xs : List D) | scr (xs : List D) | ref (i : Nat) | obj (c : Nat) (ks : List Nat) (vs : List D) | fn (f : Nat)
deriving Inhabited

mutual
/-- all cells that are met stand below n -/
def D.lt (n : Nat) : D → Bool
  | .ref i => decide (i < n)
  | .tup xs => D.lts n xs
  | .lst xs => D.lts n xs
  | .scr xs => D.lts n xs
  | .obj _ _ vs => D.lts n vs
  | _ => true
def D.lts (n : Nat) : List D → Bool
  | [] => true
  | x :: xs => D.lt n x && D.lts n xs
end
mutual
/-- plain data: no cell, no instance, no def; not deeper than k -/
def D.plain : Nat → D → Bool
  | _, .non => true
  | _, .bl _ => true
  | _, .int _ => true
  | _, .str x => x.cps.all (fun c => decide (c < 1114112))
  | k + 1, .tup xs => D.plains k xs
  | k + 1, .lst xs => D.plains k xs
  | _, _ => false
def D.plains : Nat → List D → Bool
  | _, [] => true
  | k, x :: xs => D.plain k x && D.plains k xs
end
mutual
/-- == of data -/
def D.eqv : D → D → Bool
  | .non, .non => true
  | .bl a, .bl b => a == b
  | .bl a, .int j => (if a then 1 else 0) == j
  | .int i, .bl b => i == (if b then 1 else 0)
  | .int i, .int j => i == j
  | .str x, .str y => x == y
  | .tup xs, .tup ys => D.eqvs xs ys
  | .lst xs, .lst ys => D.eqvs xs ys
  | _, _ => false
def D.eqvs : List D → List D → Bool
  | [], [] => true
  | x :: xs, y :: ys => D.eqv x y && D.eqvs xs ys
  | _, _ => false
end

inductive Cell where
  | lst (xs : List D)
  | ins (c : Nat) (ks : List Nat) (vs : List D)
  | dct (ks vs : List D)
def Cell.lt (n : Nat) : Cell → Bool
  | .lst xs => D.lts n xs
  | .ins _ _ vs => D.lts n vs
  | .dct ks vs => D.lts n ks && D.lts n vs

def D.isNon : D → Bool
  | .non => true
  | _ => false
structure Exc where
  cls : Nat
  arg : D

abbrev Env := List (Option D)
abbrev Store := List Cell

inductive Rs (α : Type) where
  | ok (a : α) (S : Store)
  | ex (x : Exc) (S : Store)
abbrev R (α : Type) := Option (Rs α)
def ret {α : Type} (a : α) (S : Store) : R α := some (.ok a S)
def bnd {α β : Type} (r : R α) (k : α → Store → R β) : R β :=
  match r with
  | some (.ok a S) => k a S
  | some (.ex x S) => some (.ex x S)
  | none => none

theorem bnd_ok {α β : Type} {r : R α} {k : α → Store → R β} {b : β} {S' : Store} (h : bnd r k = some (.ok b S')) : ∃ a S, r = some (.ok a S) ∧ k a S = some (.ok b S') := by
  cases r with
  | none => cases h
  | some r => cases r with
    | ok a S => exact ⟨a, S, rfl, h⟩
    | ex x S => cases h
inductive Op where
  | add | sub | mul | fdv | mod | eq | ne | lt | le | gt | ge
deriving DecidableEq, Inhabited
inductive BI where
  | len | abs | max | min | int | tuple | isT (ts : List Nat) | gcd | lcm | sum | all | any
deriving Inhabited
/-- a target -/
inductive Tg where
  | name (i : Nat) | tup (ts : List Tg)
deriving Inhabited

mutual
inductive E where
  | var (i : Nat) | lit (d : D)
  | bin (o : Op) (a b : E) | neg (a : E)
  | chain (o1 o2 : Op) (a b c : E)
  | isN (ng : Bool) (a : E)
  | inn (ng : Bool) (a b : E)
  | not (a : E) | and (a b : E) | or (a b : E) | ite (c a b : E)
  | tup (es : Es) | frz (l : L) | own (l : L)
  | idx (a b : E) | slc (a : E) (lo hi : Option Unit) (el eh : E)
  | call (f : Nat) (es : Es) | callv (i : Nat) (es : Es) | meth (o : E) (m : Nat) (es : Es) | mk (c : Nat) (es : Es)
  | fld (o : E) (f : Nat)
  | bi (b : BI) (es : Es)
  | bad
inductive Es where
  | nil | cons (e : E) (r : Es)
/-- what makes a new list -/
inductive L where
  | disp (es : Es) | ofs (e : E) | cat (a b : E) | rep (a b : E) | srt (e : E)
  | comp (own : List Nat) (tg : Tg) (it : It) (c : E) (elt : E)
  | comp2 (own own2 : List Nat) (tg : Tg) (it : It) (tg2 : Tg) (it2 : It) (elt : E)
/-- what a loop walks -/
inductive It where
  | seq (e : E) | rng (lo hi : E) (st : Int) | enum (e : E) | rev (e : E) | zip (a b : E)
end
instance : Inhabited E := ⟨.bad⟩
instance : Inhabited Es := ⟨.nil⟩
instance : Inhabited L := ⟨.disp .nil⟩
instance : Inhabited It := ⟨.seq .bad⟩

mutual
inductive S where
  | set (i : Nat) (e : E)
  | par (is : List Nat) (es : Es)
  | unp (t : Tg) (e : E)
  | sub (l i e : E)
  | setf (f : Nat) (e : E)
  | aug (i : Nat) (o : Op) (e : E)
  | app (l e : E) | ext (l e : E) | pop (l : E)
  | ife (c : E) (a b : Ss)
  | whl (c : E) (b : Ss)
  | for_ (t : Tg) (it : It) (b : Ss)
  | ret (e : E) | retN | cont | pass | expr (e : E)
  | raise (c : Nat) (e : E)
  | try_ (b : Ss) (hs : Hs)
  | bad
inductive Ss where
  | nil | cons (s : S) (r : Ss)
/-- the clauses of a try: class, slot of the name, suite -/
inductive Hs where
  | nil | cons (c : Nat) (i : Option Nat) (b : Ss) (r : Hs)
end
instance : Inhabited S := ⟨.bad⟩
instance : Inhabited Ss := ⟨.nil⟩

structure Fn where
  n : Nat
  k : Nat
  body : Ss
  /-- a list that it hands back is the caller's to write -/
  ro : Bool := false
structure Prog where
  fn : Nat → Option Fn
  meth : Nat → Nat → Option Nat
  init : Nat → Option Nat
  sub : Nat → Nat → Bool
  /-- fields -/
  fok : Nat → Nat → Bool

/-! ### values -/
def bitsOk (i j : Int) : Bool := decide (i.natAbs < 18446744073709551616) || decide (j.natAbs < 18446744073709551616) || decide (i.natAbs.log2 + j.natAbs.log2 < 134217726)
def divOk (j : Int) : Bool := decide (j ≠ 0) && decide (j.natAbs.log2 < 9000)
/-- binary operators by values -/
def binop : Op → D → D → Option D
  | .add, .int i, .int j => some (.int (i + j))
  | .add, .tup xs, .tup ys => if xs.length + ys.length ≤ 1000 then some (.tup (xs ++ ys)) else none
  | .sub, .int i, .int j => some (.int (i - j))
  | .mul, .int i, .int j => if bitsOk i j then some (.int (i * j)) else none
  | .mul, .tup xs, .int k => if 2 ≤ k ∧ k ≤ 1000 ∧ xs.length ≤ 1000 ∧ 1 ≤ xs.length then some (.tup (List.replicate k.toNat xs).flatten) else none
  | .fdv, .int i, .int j => if divOk j then some (.int (i.fdiv j)) else none
  | .mod, .int i, .int j => if j ≠ 0 then some (.int (i.fmod j)) else none
  | .lt, .int i, .int j => some (.bl (decide (i < j)))
  | .le, .int i, .int j => some (.bl (decide (i ≤ j)))
  | .gt, .int i, .int j => some (.bl (decide (j < i)))
  | .ge, .int i, .int j => some (.bl (decide (j ≤ i)))
  | .eq, .int i, .int j => some (.bl (i == j))
  | .ne, .int i, .int j => some (.bl (!(i == j)))
  | .eq, a, b => if a.plain 20 && b.plain 20 then some (.bl (a.eqv b)) else none
  | .ne, a, b => if a.plain 20 && b.plain 20 then some (.bl (!a.eqv b)) else none
  | _, _, _ => none
/-- the items of a tuple or a list -/
def items (S : Store) : D → Option (List D)
  | .tup xs => some xs
  | .lst xs => some xs
  | .ref i => match S[i]? with
    | some (.lst xs) => some xs
    | _ => none
  | _ => none
/-- the items of a list -/
def litems (S : Store) : D → Option (List D)
  | .lst xs => some xs
  | .ref i => match S[i]? with
    | some (.lst xs) => some xs
    | _ => none
  | _ => none
def ixN (n : Nat) (i : Int) : Option Nat := if 0 ≤ i then (if i < n then some i.toNat else none) else if -(n : Int) ≤ i then some (i + n).toNat else none
def at_ (xs : List D) (i : Int) : Option D := (ixN xs.length i).bind fun j => xs[j]?
def sIx (n d : Nat) : Option Int → Nat
  | none => d
  | some v => if v < 0 then (v + (n : Int)).toNat else min v.toNat n
def cut (xs : List D) (lo hi : Option Int) : List D := (xs.drop (sIx xs.length 0 lo)).take (sIx xs.length xs.length hi - sIx xs.length 0 lo)
/-- isinstance: 0 int, 1 bool, 2 str, 3 tuple, 4 list -/
def isT (S : Store) (ts : List Nat) : D → Option Bool
  | .non => some false
  | .bl _ => some (ts.contains 0 || ts.contains 1)
  | .int _ => some (ts.contains 0)
  | .str _ => some (ts.contains 2)
  | .tup _ => some (ts.contains 3)
  | .lst _ => some (ts.contains 4)
  | .ref i => match S[i]? with
    | some (.lst _) => some (ts.contains 4)
    | _ => none
  | _ => none
def intsL : List D → Option (List Int)
  | [] => some []
  | .int i :: r => (intsL r).map (i :: ·)
  | _ => none
def bools : List D → Option (List Bool)
  | [] => some []
  | .bl i :: r => (bools r).map (i :: ·)
  | _ => none
def biop (S : Store) : BI → List D → Option D
  | .len, [d] => (items S d).map fun xs => .int xs.length
  | .abs, [.int i] => some (.int i.natAbs)
  | .max, [.int i, .int j] => some (.int (max i j))
  | .min, [.int i, .int j] => some (.int (min i j))
  | .int, [.int i] => some (.int i)
  | .tuple, [d] => (items S d).map .tup
  | .isT ts, [d] => (isT S ts d).map .bl
  | .gcd, [.int i, .int j] => some (.int (Int.gcd i j))
  | .lcm, [.int i, .int j] => some (.int (Int.lcm i j))
  | .sum, [d] => (items S d).bind fun xs => (intsL xs).map fun ns => .int ns.sum
  | .all, [d] => (litems S d).bind fun xs => (bools xs).map fun bs => .bl (bs.all id)
  | .any, [d] => (litems S d).bind fun xs => (bools xs).map fun bs => .bl (bs.any id)
  | _, _ => none
/-- x in xs, of scalars -/
def flat : D → Bool
  | .non => true
  | .bl _ => true
  | .int _ => true
  | .str _ => true
  | _ => false
def inop (S : Store) (x y : D) : Option Bool :=
  (items S y).bind fun xs => if flat x && xs.all flat then some (xs.any fun y => y.eqv x) else none
def slice (S : Store) (d : D) (lo hi : Option Int) : Option D :=
  match d with
  | .tup xs => some (.tup (cut xs lo hi))
  | .scr xs => some (.lst (cut xs lo hi))
  | d => (litems S d).map fun xs => .lst (cut xs lo hi)

/-! ### loops -/
def iter {α β : Type} (f : α → Option (α ⊕ β)) : Nat → α → Option β
  | 0, _ => none
  | n + 1, a => match f a with
    | none => none
    | some (.inl a') => iter f n a'
    | some (.inr b) => some b
open Classical in
/-- what the loop comes to, if it ends -/
noncomputable def loop {α β : Type} (f : α → Option (α ⊕ β)) (a : α) : Option β :=
  if h : ∃ n b, iter f n a = some b then some h.choose_spec.choose else none
theorem iter_mono {α β : Type} {f : α → Option (α ⊕ β)} : ∀ {n m : Nat} {a : α} {b : β}, iter f n a = some b → n ≤ m → iter f m a = some b
  | 0, _, _, _, h, _ => by simp [iter] at h
  | n + 1, 0, _, _, _, h => by omega
  | n + 1, m + 1, a, b, h, hm => by
    unfold iter at h ⊢
    split at h <;> simp_all
    exact iter_mono h (by omega)
theorem loop_eq {α β : Type} {f : α → Option (α ⊕ β)} {a : α} {b : β} : loop f a = some b ↔ ∃ n, iter f n a = some b := by
  constructor
  · intro h
    unfold loop at h
    split at h
    · rename_i hx
      refine ⟨hx.choose, ?_⟩
      have := hx.choose_spec.choose_spec
      rw [this, ← h]
    · simp at h
  · rintro ⟨n, h⟩
    have hx : ∃ n b, iter f n a = some b := ⟨n, b, h⟩
    unfold loop
    rw [dif_pos hx]
    have h1 := iter_mono hx.choose_spec.choose_spec (Nat.le_max_left hx.choose n)
    have h2 := iter_mono h (Nat.le_max_right hx.choose n)
    rw [h1] at h2
    exact h2
theorem loop_stop {α β : Type} {f : α → Option (α ⊕ β)} {a : α} {b : β} (h : f a = some (.inr b)) : loop f a = some b :=
  loop_eq.mpr ⟨1, by simp [iter, h]⟩
theorem loop_next {α β : Type} {f : α → Option (α ⊕ β)} {a a' : α} (h : f a = some (.inl a')) : loop f a = loop f a' := by
  cases e : loop f a' with
  | some b =>
    obtain ⟨n, hn⟩ := loop_eq.mp e
    exact loop_eq.mpr ⟨n + 1, by simp [iter, h, hn]⟩
  | none =>
    cases e2 : loop f a with
    | none => rfl
    | some b =>
      obtain ⟨n, hn⟩ := loop_eq.mp e2
      cases n with
      | zero => simp [iter] at hn
      | succ n =>
        simp [iter, h] at hn
        rw [loop_eq.mpr ⟨n, hn⟩] at e
        cases e

/-- a fold that may raise -/
def foldR {α : Type} (step : α → D → Store → R α) : List D → α → Store → R α
  | [], a, S => ret a S
  | x :: xs, a, S => bnd (step a x S) fun a S => foldR step xs a S

inductive Out where
  | nx (ρ : Env) (S : Store) | rt (d : D) (S : Store) | ex (x : Exc) (ρ : Env) (S : Store) | ct (ρ : Env) (S : Store)

mutual
def bind (S : Store) : Tg → D → Env → Option Env
  | .name i, d, ρ => some (ρ.set i (some d))
  | .tup ts, .tup xs, ρ => binds S ts xs ρ
  | _, _, _ => none
def binds (S : Store) : List Tg → List D → Env → Option Env
  | [], [], ρ => some ρ
  | t :: ts, x :: xs, ρ => (bind S t x ρ).bind fun ρ => binds S ts xs ρ
  | _, _, _ => none
end
/-- a cell that is walked stays as it is -/
def Guard := Option (Nat × Cell)
open Classical in
noncomputable def Guard.ok (g : Guard) (S : Store) : Bool := match g with
  | none => true
  | some (i, c) => decide (S[i]? = some c)
/-- the guard still holds -/
noncomputable def gd {α : Type} (g : Guard) (r : R α) : R α := bnd r fun a S => if g.ok S then ret a S else none
/-- nothing is raised -/
def nox {α : Type} (r : R α) : R α := match r with
  | some (.ex _ _) => none
  | r => r
def guardOf (S : Store) : D → Guard
  | .ref i => (S[i]?).map fun c => (i, c)
  | _ => none
noncomputable def forGo (tg : Tg) (g : Guard) (body : Env → Store → Option Out) : List D → Env → Store → Option Out
  | [], ρ, S => some (.nx ρ S)
  | x :: xs, ρ, S => match bind S tg x ρ with
    | none => none
    | some ρ => match body ρ S with
      | some (.nx ρ S) => if g.ok S then forGo tg g body xs ρ S else none
      | some (.ct ρ S) => if g.ok S then forGo tg g body xs ρ S else none
      | r => r
def wipe (ρ : Env) : List Nat → Env
  | [] => ρ
  | i :: r => (wipe ρ r).set i none
/-- lo, lo + st, .. below (above) hi -/
def rng (lo hi st : Int) : List D :=
  if st = 1 then (List.range (hi - lo).toNat).map fun (k : Nat) => D.int (lo + k)
  else if st = -1 then (List.range (lo - hi).toNat).map fun (k : Nat) => D.int (lo - k)
  else if 0 < st then (List.range ((hi - lo + st - 1).fdiv st).toNat).map fun (k : Nat) => D.int (lo + k * st)
  else []
def rngOk (lo hi : Int) : Bool := decide (-1000000 ≤ lo ∧ lo ≤ 1000000 ∧ -1000000 ≤ hi ∧ hi ≤ 1000000)

section
variable (P : Prog) (call : Nat → List D → Store → R D)
mutual
noncomputable def ev : E → Env → Store → R D
  | .var i, ρ, S => match ρ[i]? with
    | some (some d) => ret d S
    | _ => none
  | .lit d, _, S => ret d S
  | .bin o a b, ρ, S => bnd (ev a ρ S) fun x S => bnd (ev b ρ S) fun y S => (binop o x y).bind fun z => ret z S
  | .neg a, ρ, S => bnd (ev a ρ S) fun x S => match x with
    | .int i => ret (.int (-i)) S
    | _ => none
  | .chain o1 o2 a b c, ρ, S => bnd (ev a ρ S) fun x S => bnd (ev b ρ S) fun y S => match binop o1 x y with
    | some (.bl true) => bnd (ev c ρ S) fun z S => (binop o2 y z).bind fun z => ret z S
    | some (.bl false) => ret (.bl false) S
    | _ => none
  | .isN ng a, ρ, S => bnd (ev a ρ S) fun x S => ret (.bl (if ng then !x.isNon else x.isNon)) S
  | .inn ng a b, ρ, S => bnd (ev a ρ S) fun x S => bnd (ev b ρ S) fun y S => (inop S x y).bind fun k => ret (.bl (if ng then !k else k)) S
  | .not a, ρ, S => bnd (ev a ρ S) fun x S => match x with
    | .bl k => ret (.bl (!k)) S
    | _ => none
  | .and a b, ρ, S => bnd (ev a ρ S) fun x S => match x with
    | .bl true => ev b ρ S
    | .bl false => ret (.bl false) S
    | _ => none
  | .or a b, ρ, S => bnd (ev a ρ S) fun x S => match x with
    | .bl false => ev b ρ S
    | .bl true => ret (.bl true) S
    | _ => none
  | .ite c a b, ρ, S => bnd (ev c ρ S) fun x S => match x with
    | .bl true => ev a ρ S
    | .bl false => ev b ρ S
    | _ => none
  | .tup es, ρ, S => bnd (evs es ρ S) fun xs S => ret (.tup xs) S
  | .frz l, ρ, S => bnd (evL l ρ S) fun xs S => ret (.lst xs) S
  | .own l, ρ, S => bnd (evL l ρ S) fun xs S => ret (.ref S.length) (S ++ [.lst xs])
  | .idx a b, ρ, S => bnd (ev a ρ S) fun x S => bnd (ev b ρ S) fun y S => match y with
    | .int i => (items S x).bind fun xs => (at_ xs i).bind fun z => ret z S
    | _ => none
  | .slc a lo hi el eh, ρ, S => bnd (ev a ρ S) fun x S => match lo, hi with
    | none, none => none
    | some _, none => bnd (ev el ρ S) fun l S => match l with
      | .int l => (slice S x (some l) none).bind fun z => ret z S
      | _ => none
    | none, some _ => bnd (ev eh ρ S) fun h S => match h with
      | .int h => (slice S x none (some h)).bind fun z => ret z S
      | _ => none
    | some _, some _ => bnd (ev el ρ S) fun l S => match l with
      | .int l => bnd (ev eh ρ S) fun h S => match h with
        | .int h => (slice S x (some l) (some h)).bind fun z => ret z S
        | _ => none
      | _ => none
  | .call f es, ρ, S => bnd (evs es ρ S) fun xs S => call f xs S
  | .callv i es, ρ, S => match ρ[i]? with
    | some (some (.fn f)) => bnd (evs es ρ S) fun xs S => call f xs S
    | _ => none
  | .meth o m es, ρ, S => match ev o ρ S with
    | some (.ok (.obj c ks vs) S) => match P.meth c m with
      | some f => if ks.contains m then none else bnd (evs es ρ S) fun xs S => call f (.obj c ks vs :: xs) S
      | none => none
    | _ => none
  | .mk c es, ρ, S => bnd (evs es ρ S) fun xs S => match P.init c with
    | none => if xs.length = 0 then ret (.obj c [] []) S else none
    | some f => match call f (.ref S.length :: xs) (S ++ [.ins c [] []]) with
      | some (.ok .non S2) => match S2[S.length]? with
        | some (.ins c' ks vs) => if c' = c ∧ D.lts S.length vs = true then ret (.obj c ks vs) (S2.take S.length) else none
        | _ => none
      | _ => none
  | .fld o f, ρ, S => bnd (ev o ρ S) fun x S => match x with
    | .obj c ks vs => if P.fok c f then match (ks.zip vs).lookup f with
      | some d => ret d S
      | none => none
      else none
    | _ => none
  | .bi b es, ρ, S => bnd (evs es ρ S) fun xs S => (biop S b xs).bind fun z => ret z S
  | .bad, _, _ => none
noncomputable def evs : Es → Env → Store → R (List D)
  | .nil, _, S => ret [] S
  | .cons e r, ρ, S => bnd (ev e ρ S) fun x S => bnd (evs r ρ S) fun xs S => ret (x :: xs) S
noncomputable def evL : L → Env → Store → R (List D)
  | .disp es, ρ, S => evs es ρ S
  | .ofs e, ρ, S => bnd (ev e ρ S) fun x S => (items S x).bind fun xs => ret xs S
  | .cat a b, ρ, S => bnd (ev a ρ S) fun x S => bnd (ev b ρ S) fun y S => (litems S x).bind fun xs => (litems S y).bind fun ys => if xs.length + ys.length ≤ 100000 then ret (xs ++ ys) S else none
  | .rep a b, ρ, S => bnd (ev a ρ S) fun x S => bnd (ev b ρ S) fun y S => match y with
    | .int k => (litems S x).bind fun xs => if xs.length * k.toNat ≤ 100000 ∧ -100000 ≤ k ∧ k ≤ 100000 then ret (List.replicate k.toNat xs).flatten S else none
    | _ => none
  | .srt _, _, _ => none
  | .comp own tg it c elt, ρ, S => bnd (evIt it ρ S) fun p S =>
    nox (foldR (fun acc x S => match bind S tg x (wipe ρ own) with
      | none => none
      | some ρ2 => gd p.2 (bnd (ev c ρ2 S) fun k S => match k with
        | .bl true => bnd (ev elt ρ2 S) fun y S => if acc.length < 100000 then ret (acc ++ [y]) S else none
        | .bl false => ret acc S
        | _ => none)) p.1 [] S)
  | .comp2 own own2 tg it tg2 it2 elt, ρ, S => bnd (evIt it ρ S) fun p S =>
    nox (foldR (fun acc x S => match bind S tg x (wipe ρ own) with
      | none => none
      | some ρ2 => gd p.2 (bnd (evIt it2 ρ2 S) fun q S =>
        foldR (fun acc y S => match bind S tg2 y (wipe ρ2 own2) with
          | none => none
          | some ρ3 => gd q.2 (bnd (ev elt ρ3 S) fun y S => if acc.length < 100000 then ret (acc ++ [y]) S else none)) q.1 acc S)) p.1 [] S)
noncomputable def evIt : It → Env → Store → R (List D × Guard)
  | .seq e, ρ, S => bnd (ev e ρ S) fun x S => (items S x).bind fun xs => ret (xs, guardOf S x) S
  | .rng lo hi st, ρ, S => bnd (ev lo ρ S) fun l S => bnd (ev hi ρ S) fun h S => match l, h with
    | .int l, .int h => if rngOk l h then ret (rng l h st, none) S else none
    | _, _ => none
  | .enum e, ρ, S => bnd (ev e ρ S) fun x S => (items S x).bind fun xs => ret ((xs.zipIdx).map fun p => .tup [.int p.2, p.1], guardOf S x) S
  | .rev e, ρ, S => bnd (ev e ρ S) fun x S => match x with
    | .tup xs => ret (xs.reverse, none) S
    | _ => none
  | .zip a b, ρ, S => bnd (ev a ρ S) fun x S => bnd (ev b ρ S) fun y S => match x, y with
    | .tup xs, .tup ys => ret ((xs.zip ys).map fun p => .tup [p.1, p.2], none) S
    | _, _ => none
end

/-- an expression's result within a statement -/
def stp (ρ : Env) (r : R D) (k : D → Store → Option Out) : Option Out :=
  match r with
  | some (.ok d S) => k d S
  | some (.ex x S) => some (.ex x ρ S)
  | none => none
def setAll : List Nat → List D → Env → Option Env
  | [], [], ρ => some ρ
  | i :: is, x :: xs, ρ => setAll is xs (ρ.set i (some x))
  | _, _, _ => none
mutual
noncomputable def exec : S → Env → Store → Option Out
  | .set i e, ρ, S => stp ρ (ev P call e ρ S) fun d S => some (.nx (ρ.set i (some d)) S)
  | .par is es, ρ, S => match evs P call es ρ S with
    | some (.ok xs S) => (setAll is xs ρ).map fun ρ => .nx ρ S
    | some (.ex x S) => some (.ex x ρ S)
    | none => none
  | .unp t e, ρ, S => stp ρ (ev P call e ρ S) fun d S => (bind S t d ρ).map fun ρ => .nx ρ S
  | .sub l i e, ρ, S => stp ρ (ev P call e ρ S) fun v S => stp ρ (ev P call l ρ S) fun l S => stp ρ (ev P call i ρ S) fun i S => match l, i with
    | .ref a, .int i => match S[a]? with
      | some (.lst xs) => if v.lt a then (ixN xs.length i).map fun j => .nx ρ (S.set a (.lst (xs.set j v))) else none
      | _ => none
    | _, _ => none
  | .setf f e, ρ, S => stp ρ (ev P call e ρ S) fun v S => match ρ[(0 : Nat)]? with
    | some (some (.ref a)) => match S[a]? with
      | some (.ins c ks vs) => if P.fok c f && v.lt a && !ks.contains f && decide (ks.length = vs.length) && decide (ks.length < 50) then some (.nx ρ (S.set a (.ins c (ks ++ [f]) (vs ++ [v])))) else none
      | _ => none
    | _ => none
  | .aug i o e, ρ, S => match ρ[i]? with
    | some (some (.int x)) => stp ρ (ev P call e ρ S) fun y S => match o, y with
      | .sub, .int y => some (.nx (ρ.set i (some (.int (x - y)))) S)
      | .add, .int y => some (.nx (ρ.set i (some (.int (x + y)))) S)
      | _, _ => none
    | _ => none
  | .app l e, ρ, S => stp ρ (ev P call l ρ S) fun l S => match l with
    | .ref a => match S[a]? with
      | some (.lst _) => stp ρ (ev P call e ρ S) fun v S => match S[a]? with
        | some (.lst xs) => if v.lt a && decide (xs.length < 100000) then some (.nx ρ (S.set a (.lst (xs ++ [v])))) else none
        | _ => none
      | _ => none
    | _ => none
  | .ext l e, ρ, S => stp ρ (ev P call l ρ S) fun l S => match l with
    | .ref a => match S[a]? with
      | some (.lst _) => stp ρ (ev P call e ρ S) fun v S => match S[a]?, v with
        | some (.lst xs), .lst ys => if D.lts a ys && decide (xs.length + ys.length ≤ 100000) then some (.nx ρ (S.set a (.lst (xs ++ ys)))) else none
        | _, _ => none
      | _ => none
    | _ => none
  | .pop l, ρ, S => stp ρ (ev P call l ρ S) fun l S => match l with
    | .ref a => match S[a]? with
      | some (.lst xs) => if 0 < xs.length then some (.nx ρ (S.set a (.lst xs.dropLast))) else none
      | _ => none
    | _ => none
  | .ife c a b, ρ, S => stp ρ (ev P call c ρ S) fun k S => match k with
    | .bl true => execs a ρ S
    | .bl false => execs b ρ S
    | _ => none
  | .whl c b, ρ, S => loop (fun (ρS : Env × Store) => match ev P call c ρS.1 ρS.2 with
    | some (.ok (.bl true) S) => match execs b ρS.1 S with
      | some (.nx ρ S) => some (.inl (ρ, S))
      | some (.ct ρ S) => some (.inl (ρ, S))
      | some r => some (.inr r)
      | none => none
    | some (.ok (.bl false) S) => some (.inr (.nx ρS.1 S))
    | some (.ex x S) => some (.inr (.ex x ρS.1 S))
    | _ => none) (ρ, S)
  | .for_ t it b, ρ, S => match evIt P call it ρ S with
    | some (.ok (xs, g) S) => forGo t g (fun ρ S => execs b ρ S) xs ρ S
    | some (.ex x S) => some (.ex x ρ S)
    | none => none
  | .ret e, ρ, S => stp ρ (ev P call e ρ S) fun d S => some (.rt d S)
  | .retN, _, S => some (.rt .non S)
  | .cont, ρ, S => some (.ct ρ S)
  | .pass, ρ, S => some (.nx ρ S)
  | .expr e, ρ, S => stp ρ (ev P call e ρ S) fun _ S => some (.nx ρ S)
  | .raise c e, ρ, S => stp ρ (ev P call e ρ S) fun d S => some (.ex ⟨c, d⟩ ρ S)
  | .try_ b hs, ρ, S => match execs b ρ S with
    | some (.ex x ρ S) => handle hs x ρ S
    | r => r
  | .bad, _, _ => none
noncomputable def execs : Ss → Env → Store → Option Out
  | .nil, ρ, S => some (.nx ρ S)
  | .cons s r, ρ, S => match exec s ρ S with
    | some (.nx ρ S) => execs r ρ S
    | r => r
noncomputable def handle : Hs → Exc → Env → Store → Option Out
  | .nil, x, ρ, S => some (.ex x ρ S)
  | .cons c i b r, x, ρ, S => if P.sub x.cls c then match i with
      | none => execs b ρ S
      | some _ => none
    else handle r x ρ S
end
end

def mapO {α β : Type} (f : α → Option β) : List α → Option (List β)
  | [] => some []
  | x :: xs => match f x, mapO f xs with
    | some y, some ys => some (y :: ys)
    | _, _ => none
/-- the cells from n on as they stand -/
def frzD (n : Nat) (S : Store) : Nat → D → Option D
  | 0, _ => none
  | k + 1, d => match d with
    | .ref i => if i < n then some (.ref i) else match S[i]? with
      | some (.lst xs) => (mapO (frzD n S k) xs).map .lst
      | _ => none
    | .tup xs => (mapO (frzD n S k) xs).map .tup
    | .lst xs => (mapO (frzD n S k) xs).map .lst
    | .scr xs => (mapO (frzD n S k) xs).map .scr
    | .obj c ks vs => (mapO (frzD n S k) vs).map (.obj c ks)
    | d => some d
/-- what is handed back, the cells made on the way left out -/
def retv (ro : Bool) (n : Nat) (v : D) (S : Store) : R D :=
  if v.lt n then ret v (S.take n)
  else if ro then match v with
    | .ref i => match S[i]? with
      | some c => if c.lt n then ret (.ref n) (S.take n ++ [c]) else none
      | none => none
    | _ => none
  else match frzD n S 20 v with
    | some v => ret v (S.take n)
    | none => none
def fin (ro : Bool) (n : Nat) : Option Out → R D
  | some (.rt v S) => retv ro n v S
  | some (.nx _ S) => ret .non (S.take n)
  | some (.ex x _ S) => if x.arg.lt 0 then some (.ex x (S.take n)) else none
  | _ => none
noncomputable def callF (P : Prog) : Nat → Nat → List D → Store → R D
  | 0, _, _, _ => none
  | d + 1, f, args, S => match P.fn f with
    | none => none
    | some F => if args.length = F.n ∧ F.n ≤ F.k then fin F.ro S.length (execs P (callF P d) F.body (args.map some ++ List.replicate (F.k - F.n) none) S) else none
end RG
set_option Elab.async false
set_option linter.all false
set_option maxRecDepth 100000
/-! How the small language's values and cells lie in the heap. -/
namespace RG
open PySem PySem.Spec PyProof.Rows L2

/-- where the text's defs and classes stand -/
structure Txt where
  cls : Nat → Addr
  att : Nat → Str
  fad : Nat → Addr
  xat : Nat → Str
  inj : ∀ i j, att i = att j → i = j
  /-- lists that are being made: nothing refers to them -/
  hid : List Addr := []
def Txt.hs (T : Txt) (l : List Addr) : Txt := { T with hid := l }
def Txt.hide (T : Txt) (p : Addr) : Txt := T.hs (p :: T.hid)
def Outs (T : Txt) (m : List Addr) (a : Addr) : Prop := a ∉ m ∧ a ∉ T.hid

section
variable (K : PySem.W.Frag) (T : Txt)
mutual
inductive Rep (m : List Addr) (H : Hp) : V → D → Prop
  | non : Rep m H .non .non
  | bl (b : Bool) : Rep m H (.bl b) (.bl b)
  | int (i : Int) : Rep m H (.int i) (.int i)
  | str (x : Str) : Rep m H (.str x) (.str x)
  | tup {a : Addr} {xs : List V} {ds : List D} : Rd H a (.tup xs) → Outs T m a → Reps m H xs ds → Rep m H (.ref a) (.tup ds)
  | tupK {a : Addr} {xs : List V} {ds : List D} : (∀ H, SqT K H a xs) → Reps m H xs ds → Rep m H (.ref a) (.tup ds)
  | lst {a : Addr} {xs : List V} {ds : List D} : H a = some (.lst xs) → Outs T m a → Reps m H xs ds → Rep m H (.ref a) (.lst ds)
  | scr {a : Addr} {xs : List V} {ds : List D} : Rd H a (.lst xs) → Outs T m a → Reps m H xs ds → Rep m H (.ref a) (.scr ds)
  | scrK {a : Addr} {xs : List V} {ds : List D} : (∀ H, SqL K H a xs) → Reps m H xs ds → Rep m H (.ref a) (.scr ds)
  | ref {i : Nat} {a : Addr} : m[i]? = some a → Rep m H (.ref a) (.ref i)
  | obj {a dx : Addr} {fs : List (Str × V)} {c : Nat} {ks : List Nat} {vs : List D} : H a = some (.ins (T.cls c) dx fs) → Outs T m a → RepF m H fs ks vs → Rep m H (.ref a) (.obj c ks vs)
  | fn (f : Nat) : Rep m H (.ref (T.fad f)) (.fn f)
inductive Reps (m : List Addr) (H : Hp) : List V → List D → Prop
  | nil : Reps m H [] []
  | cons {v : V} {vs : List V} {d : D} {ds : List D} : Rep m H v d → Reps m H vs ds → Reps m H (v :: vs) (d :: ds)
inductive RepF (m : List Addr) (H : Hp) : List (Str × V) → List Nat → List D → Prop
  | nil : RepF m H [] [] []
  | cons {v : V} {fs : List (Str × V)} {k : Nat} {ks : List Nat} {d : D} {ds : List D} : Rep m H v d → RepF m H fs ks ds → RepF m H ((T.att k, v) :: fs) (k :: ks) (d :: ds)
end
end

structure Grow (m : List Addr) (H : Hp) (m' : List Addr) (H' : Hp) : Prop where
  pre : m <+: m'
  keep : ∀ a o, H a = some o → a ∉ m → H' a = some o
  new : ∀ a, a ∈ m' → a ∈ m ∨ H a = none
theorem Grow.refl (m : List Addr) (H : Hp) : Grow m H m H := ⟨List.prefix_refl _, fun _ _ h _ => h, fun _ h => .inl h⟩
theorem Grow.notIn {m m' : List Addr} {H H' : Hp} (g : Grow m H m' H') {a : Addr} {o : HO} (h : H a = some o) (n : a ∉ m) : a ∉ m' := fun z => by
  rcases g.new a z with q | q
  · exact n q
  · rw [q] at h; cases h
theorem Grow.trans {m m1 m2 : List Addr} {H H1 H2 : Hp} (a : Grow m H m1 H1) (b : Grow m1 H1 m2 H2) : Grow m H m2 H2 where
  pre := a.pre.trans b.pre
  keep := fun c o h n => b.keep c o (a.keep c o h n) (a.notIn h n)
  new := fun c hc => by
    rcases b.new c hc with q | q
    · exact a.new c q
    · cases e : H c with
      | none => exact .inr rfl
      | some o =>
        by_cases hm : c ∈ m
        · exact .inl hm
        · rw [a.keep c o e hm] at q; cases q
/-- a new object that is no cell -/
theorem Grow.fresh {m : List Addr} {H : Hp} {p : Addr} {o : HO} (hp : H p = none) : Grow m H m (upd H p o) :=
  ⟨List.prefix_refl _, fun a u h _ => by rw [upd_ne (ne_of_none h hp)]; exact h, fun _ h => .inl h⟩
theorem Grow.own {m : List Addr} {H : Hp} {p : Addr} {o : HO} (hp : H p = none) : Grow m H (m ++ [p]) (upd H p o) :=
  ⟨List.prefix_append _ _, fun a u h _ => by rw [upd_ne (ne_of_none h hp)]; exact h, fun a h => (List.mem_append.mp h).elim .inl fun q => .inr (by rw [List.mem_singleton.mp q]; exact hp)⟩
/-- a cell is written -/
theorem Grow.write {m : List Addr} {H : Hp} {p : Addr} {o : HO} (hp : p ∈ m) : Grow m H m (upd H p o) :=
  ⟨List.prefix_refl _, fun a u h n => by rw [upd_ne (fun z => n (by rw [z]; exact hp))]; exact h, fun _ h => .inl h⟩

section
variable {K : PySem.W.Frag} {T : Txt} {m m' : List Addr} {H H' : Hp}
theorem Rd.keep {a : Addr} {u : HO} (r : Rd H a u) (n : Outs T m a) (g : Grow m H m' H') : Rd H' a u ∧ Outs T m' a := by
  rcases r with r | ⟨o, r⟩
  · exact ⟨.inl (g.keep _ _ r n.1), g.notIn r n.1, n.2⟩
  · exact ⟨.inr ⟨o, g.keep _ _ r n.1⟩, g.notIn r n.1, n.2⟩
mutual
theorem Rep.grow (g : Grow m H m' H') : ∀ {v : V} {d : D}, Rep K T m H v d → Rep K T m' H' v d
  | _, _, .non => .non
  | _, _, .bl b => .bl b
  | _, _, .int i => .int i
  | _, _, .str x => .str x
  | _, _, .tup r n h => let ⟨r', n'⟩ := Rd.keep r n g; .tup r' n' (Reps.grow g h)
  | _, _, .tupK r h => .tupK r (Reps.grow g h)
  | _, _, .lst r n h => .lst (g.keep _ _ r n.1) ⟨g.notIn r n.1, n.2⟩ (Reps.grow g h)
  | _, _, .scr r n h => let ⟨r', n'⟩ := Rd.keep r n g; .scr r' n' (Reps.grow g h)
  | _, _, .scrK r h => .scrK r (Reps.grow g h)
  | _, _, .ref h => .ref (by obtain ⟨t, e⟩ := g.pre; rw [← e]; exact (List.getElem?_append_left (List.getElem?_eq_some_iff.mp h).1).trans h)
  | _, _, .obj h n f => .obj (g.keep _ _ h n.1) ⟨g.notIn h n.1, n.2⟩ (RepF.grow g f)
  | _, _, .fn f => .fn f
theorem Reps.grow (g : Grow m H m' H') : ∀ {vs : List V} {ds : List D}, Reps K T m H vs ds → Reps K T m' H' vs ds
  | _, _, .nil => .nil
  | _, _, .cons h r => .cons (Rep.grow g h) (Reps.grow g r)
theorem RepF.grow (g : Grow m H m' H') : ∀ {fs : List (Str × V)} {ks : List Nat} {ds : List D}, RepF K T m H fs ks ds → RepF K T m' H' fs ks ds
  | _, _, _, .nil => .nil
  | _, _, _, .cons h r => .cons (Rep.grow g h) (RepF.grow g r)
end
mutual
/-- the cells that are met stand in m -/
theorem Rep.ltm : ∀ {v : V} {d : D}, Rep K T m H v d → d.lt m.length = true
  | _, _, .non => rfl
  | _, _, .bl b => rfl
  | _, _, .int i => rfl
  | _, _, .str x => rfl
  | _, _, .tup _ _ h => by rw [D.lt]; exact Reps.ltm h
  | _, _, .tupK _ h => by rw [D.lt]; exact Reps.ltm h
  | _, _, .lst _ _ h => by rw [D.lt]; exact Reps.ltm h
  | _, _, .scr _ _ h => by rw [D.lt]; exact Reps.ltm h
  | _, _, .scrK _ h => by rw [D.lt]; exact Reps.ltm h
  | _, _, .ref h => by rw [D.lt]; exact decide_eq_true (List.getElem?_eq_some_iff.mp h).1
  | _, _, .obj _ _ f => by rw [D.lt]; exact RepF.ltm f
  | _, _, .fn f => rfl
theorem Reps.ltm : ∀ {vs : List V} {ds : List D}, Reps K T m H vs ds → D.lts m.length ds = true
  | _, _, .nil => by rw [D.lts]
  | _, _, .cons h r => by rw [D.lts, Rep.ltm h, Reps.ltm r]; rfl
theorem RepF.ltm : ∀ {fs : List (Str × V)} {ks : List Nat} {ds : List D}, RepF K T m H fs ks ds → D.lts m.length ds = true
  | _, _, _, .nil => by rw [D.lts]
  | _, _, _, .cons h r => by rw [D.lts, Rep.ltm h, RepF.ltm r]; rfl
end
mutual
/-- the later cells are let go -/
theorem Rep.take {n : Nat} : ∀ {v : V} {d : D}, Rep K T m H v d → d.lt n = true → Rep K T (m.take n) H v d
  | _, _, .non, _ => .non
  | _, _, .bl b, _ => .bl b
  | _, _, .int i, _ => .int i
  | _, _, .str x, _ => .str x
  | _, _, .tup r k h, l => .tup r ⟨fun z => k.1 (List.mem_of_mem_take z), k.2⟩ (Reps.take h (by rw [D.lt] at l; exact l))
  | _, _, .tupK r h, l => .tupK r (Reps.take h (by rw [D.lt] at l; exact l))
  | _, _, .lst r k h, l => .lst r ⟨fun z => k.1 (List.mem_of_mem_take z), k.2⟩ (Reps.take h (by rw [D.lt] at l; exact l))
  | _, _, .scr r k h, l => .scr r ⟨fun z => k.1 (List.mem_of_mem_take z), k.2⟩ (Reps.take h (by rw [D.lt] at l; exact l))
  | _, _, .scrK r h, l => .scrK r (Reps.take h (by rw [D.lt] at l; exact l))
  | _, _, .ref h, l => .ref (by rw [D.lt] at l; rw [List.getElem?_take_of_lt (of_decide_eq_true l)]; exact h)
  | _, _, .obj h k f, l => .obj h ⟨fun z => k.1 (List.mem_of_mem_take z), k.2⟩ (RepF.take f (by rw [D.lt] at l; exact l))
  | _, _, .fn f, _ => .fn f
theorem Reps.take {n : Nat} : ∀ {vs : List V} {ds : List D}, Reps K T m H vs ds → D.lts n ds = true → Reps K T (m.take n) H vs ds
  | _, _, .nil, _ => .nil
  | _, _, .cons h r, l => by
    rw [D.lts, Bool.and_eq_true] at l
    exact .cons (Rep.take h l.1) (Reps.take r l.2)
theorem RepF.take {n : Nat} : ∀ {fs : List (Str × V)} {ks : List Nat} {ds : List D}, RepF K T m H fs ks ds → D.lts n ds = true → RepF K T (m.take n) H fs ks ds
  | _, _, _, .nil, _ => .nil
  | _, _, _, .cons h r, l => by
    rw [D.lts, Bool.and_eq_true] at l
    exact .cons (Rep.take h l.1) (RepF.take r l.2)
end
theorem Reps.length : ∀ {vs : List V} {ds : List D}, Reps K T m H vs ds → vs.length = ds.length
  | _, _, .nil => rfl
  | _, _, .cons _ r => by simp [Reps.length r]
theorem Reps.get : ∀ {vs : List V} {ds : List D} {i : Nat} {d : D}, Reps K T m H vs ds → ds[i]? = some d → ∃ v, vs[i]? = some v ∧ Rep K T m H v d
  | _, _, _, _, .nil, h => by simp at h
  | _, _, 0, _, .cons q _, h => by simp at h; subst h; exact ⟨_, rfl, q⟩
  | _, _, i + 1, _, .cons _ r, h => by
    obtain ⟨v, h1, h2⟩ := Reps.get (i := i) r (by simpa using h)
    exact ⟨v, by simpa using h1, h2⟩
theorem Reps.getV : ∀ {vs : List V} {ds : List D} {i : Nat} {v : V}, Reps K T m H vs ds → vs[i]? = some v → ∃ d, ds[i]? = some d ∧ Rep K T m H v d
  | _, _, _, _, .nil, h => by simp at h
  | _, _, 0, _, .cons q _, h => by simp at h; subst h; exact ⟨_, rfl, q⟩
  | _, _, i + 1, _, .cons _ r, h => by
    obtain ⟨v, h1, h2⟩ := Reps.getV (i := i) r (by simpa using h)
    exact ⟨v, by simpa using h1, h2⟩
theorem Reps.append : ∀ {vs us : List V} {ds es : List D}, Reps K T m H vs ds → Reps K T m H us es → Reps K T m H (vs ++ us) (ds ++ es)
  | _, _, _, _, .nil, s => s
  | _, _, _, _, .cons q r, s => .cons q (Reps.append r s)
theorem Reps.drop : ∀ {vs : List V} {ds : List D} (n : Nat), Reps K T m H vs ds → Reps K T m H (vs.drop n) (ds.drop n)
  | _, _, 0, r => r
  | _, _, _ + 1, .nil => .nil
  | _, _, n + 1, .cons _ r => Reps.drop n r
theorem Reps.takeN : ∀ {vs : List V} {ds : List D} (n : Nat), Reps K T m H vs ds → Reps K T m H (vs.take n) (ds.take n)
  | _, _, 0, _ => .nil
  | _, _, _ + 1, .nil => .nil
  | _, _, n + 1, .cons q r => .cons q (Reps.takeN n r)
theorem Reps.set {x : V} {d : D} (q : Rep K T m H x d) : ∀ {vs : List V} {ds : List D} (i : Nat), Reps K T m H vs ds → Reps K T m H (vs.set i x) (ds.set i d)
  | _, _, _, .nil => .nil
  | _, _, 0, .cons _ r => .cons q r
  | _, _, i + 1, .cons p r => .cons p (Reps.set q i r)
theorem Reps.rep {vs : List V} {ds : List D} (r : Reps K T m H vs ds) : ∀ k : Nat, Reps K T m H (List.replicate k vs).flatten (List.replicate k ds).flatten
  | 0 => by simp; exact .nil
  | k + 1 => by
    rw [List.replicate_succ, List.replicate_succ, List.flatten_cons, List.flatten_cons]
    exact r.append (Reps.rep r k)
theorem Reps.dropLast : ∀ {vs : List V} {ds : List D}, Reps K T m H vs ds → Reps K T m H vs.dropLast ds.dropLast
  | _, _, .nil => .nil
  | _, _, .cons _ .nil => .nil
  | _, _, .cons q (.cons p r) => .cons q (Reps.dropLast (.cons p r))
theorem Reps.reverse {vs : List V} {ds : List D} (h : Reps K T m H vs ds) : Reps K T m H vs.reverse ds.reverse := by
  induction vs generalizing ds with
  | nil => cases h; exact .nil
  | cons v vs ih =>
    cases h with
    | cons q r => rw [List.reverse_cons, List.reverse_cons]; exact (ih r).append (.cons q .nil)
end

/-! ### what is hidden changes -/
section
variable {K : PySem.W.Frag} {T : Txt} {l : List Addr} {m m' : List Addr} {H H' : Hp}
theorem Rd.tr {a : Addr} {u : HO} (h : ∀ a o, H a = some o → Outs T m a → H' a = some o ∧ Outs (T.hs l) m' a) (r : Rd H a u) (n : Outs T m a) : Rd H' a u ∧ Outs (T.hs l) m' a := by
  rcases r with r | ⟨o, r⟩
  · exact ⟨.inl (h _ _ r n).1, (h _ _ r n).2⟩
  · exact ⟨.inr ⟨o, (h _ _ r n).1⟩, (h _ _ r n).2⟩
mutual
theorem Rep.tr (hm : ∀ (i : Nat) (a : Addr), m[i]? = some a → m'[i]? = some a) (g : ∀ a o, H a = some o → Outs T m a → H' a = some o ∧ Outs (T.hs l) m' a) : ∀ {v : V} {d : D}, Rep K T m H v d → Rep K (T.hs l) m' H' v d
  | _, _, .non => .non
  | _, _, .bl b => .bl b
  | _, _, .int i => .int i
  | _, _, .str x => .str x
  | _, _, .tup r n h => let ⟨r', n'⟩ := Rd.tr g r n; .tup r' n' (Reps.tr hm g h)
  | _, _, .tupK r h => .tupK r (Reps.tr hm g h)
  | _, _, .lst r n h => .lst (g _ _ r n).1 (g _ _ r n).2 (Reps.tr hm g h)
  | _, _, .scr r n h => let ⟨r', n'⟩ := Rd.tr g r n; .scr r' n' (Reps.tr hm g h)
  | _, _, .scrK r h => .scrK r (Reps.tr hm g h)
  | _, _, .ref h => .ref (hm _ _ h)
  | _, _, .obj h n f => .obj (T := T.hs l) (g _ _ h n).1 (g _ _ h n).2 (RepF.tr hm g f)
  | _, _, .fn f => .fn (T := T.hs l) f
theorem Reps.tr (hm : ∀ (i : Nat) (a : Addr), m[i]? = some a → m'[i]? = some a) (g : ∀ a o, H a = some o → Outs T m a → H' a = some o ∧ Outs (T.hs l) m' a) : ∀ {vs : List V} {ds : List D}, Reps K T m H vs ds → Reps K (T.hs l) m' H' vs ds
  | _, _, .nil => .nil
  | _, _, .cons h r => .cons (Rep.tr hm g h) (Reps.tr hm g r)
theorem RepF.tr (hm : ∀ (i : Nat) (a : Addr), m[i]? = some a → m'[i]? = some a) (g : ∀ a o, H a = some o → Outs T m a → H' a = some o ∧ Outs (T.hs l) m' a) : ∀ {fs : List (Str × V)} {ks : List Nat} {ds : List D}, RepF K T m H fs ks ds → RepF K (T.hs l) m' H' fs ks ds
  | _, _, _, .nil => .nil
  | _, _, _, .cons h r => .cons (T := T.hs l) (Rep.tr hm g h) (RepF.tr hm g r)
end
end

/-- a cell lies at a -/
def CellOk (K : PySem.W.Frag) (T : Txt) (m : List Addr) (H : Hp) (a : Addr) : Cell → Prop
  | .lst ds => ∃ vs, H a = some (.lst vs) ∧ Reps K T m H vs ds
  | .ins c ks ds => ∃ dx fs, H a = some (.ins (T.cls c) dx fs) ∧ RepF K T m H fs ks ds
  | .dct _ _ => False
structure StOk (K : PySem.W.Frag) (T : Txt) (m : List Addr) (S : Store) (H : Hp) : Prop where
  len : m.length = S.length
  cell : ∀ (i : Nat) (a : Addr) (c : Cell), m[i]? = some a → S[i]? = some c → CellOk K T m H a c ∧ c.lt i = true
  nd : m.Nodup
  hid : ∀ a ∈ T.hid, (∃ o, H a = some o) ∧ a ∉ m
structure Sim (K : PySem.W.Frag) (T : Txt) (m : List Addr) (ρ : Env) (S : Store) (σ : L2.St) (H : Hp) : Prop where
  st : StOk K T m S H
  len : ρ.length = σ.length
  env : ∀ (i : Nat) (d : D), ρ[i]? = some (some d) → ∃ v, σ[i]? = some (some v) ∧ Rep K T m H v d

section
variable {K : PySem.W.Frag} {T : Txt} {m m' : List Addr} {S : Store} {H H' : Hp} {ρ : Env} {σ : L2.St}
theorem CellOk.there {a : Addr} {c : Cell} (h : CellOk K T m H a c) : ∃ o, H a = some o := by
  cases c with
  | lst ds => obtain ⟨vs, e, _⟩ := h; exact ⟨_, e⟩
  | ins c ks ds => obtain ⟨dx, fs, e, _⟩ := h; exact ⟨_, e⟩
  | dct _ _ => exact h.elim
theorem StOk.get (s : StOk K T m S H) {i : Nat} {c : Cell} (h : S[i]? = some c) : ∃ a, m[i]? = some a ∧ CellOk K T m H a c ∧ c.lt i = true := by
  have hi : i < m.length := by rw [s.len]; exact (List.getElem?_eq_some_iff.mp h).1
  exact ⟨m[i], by simp [hi], s.cell i _ c (by simp [hi]) h⟩
theorem StOk.at (s : StOk K T m S H) {i : Nat} {a : Addr} (h : m[i]? = some a) : ∃ c, S[i]? = some c ∧ CellOk K T m H a c ∧ c.lt i = true := by
  have hi : i < S.length := by rw [← s.len]; exact (List.getElem?_eq_some_iff.mp h).1
  exact ⟨S[i], by simp [hi], s.cell i a _ h (by simp [hi])⟩
theorem StOk.there (s : StOk K T m S H) {a : Addr} (h : a ∈ m) : ∃ o, H a = some o := by
  obtain ⟨i, hi⟩ := List.getElem?_of_mem h
  obtain ⟨c, _, q, _⟩ := s.at hi
  exact q.there
theorem StOk.fresh (s : StOk K T m S H) {p : Addr} (h : H p = none) : Outs T m p := by
  refine ⟨fun z => ?_, fun z => ?_⟩
  · obtain ⟨o, e⟩ := s.there z
    rw [h] at e; cases e
  · obtain ⟨⟨o, e⟩, _⟩ := s.hid p z
    rw [h] at e; cases e
theorem CellOk.grow {a : Addr} {c : Cell} (g : Grow m H m' H') (e : H' a = H a) (h : CellOk K T m H a c) : CellOk K T m' H' a c := by
  cases c with
  | lst ds => obtain ⟨vs, q, r⟩ := h; exact ⟨vs, e.trans q, r.grow g⟩
  | ins c ks ds => obtain ⟨dx, fs, q, r⟩ := h; exact ⟨dx, fs, e.trans q, r.grow g⟩
  | dct _ _ => exact h.elim
/-- a new object beside the cells -/
theorem StOk.beside (s : StOk K T m S H) {p : Addr} {o : HO} (hp : H p = none) : StOk K T m S (upd H p o) where
  len := s.len
  cell := fun i a c h1 h2 => by
    obtain ⟨q, l⟩ := s.cell i a c h1 h2
    obtain ⟨u, e⟩ := q.there
    exact ⟨q.grow (Grow.fresh hp) (upd_ne (ne_of_none e hp)), l⟩
  nd := s.nd
  hid := fun a ha => by
    obtain ⟨⟨u, e⟩, n⟩ := s.hid a ha
    exact ⟨⟨u, by rw [upd_ne (ne_of_none e hp)]; exact e⟩, n⟩
/-- a new cell -/
theorem StOk.more (s : StOk K T m S H) {p : Addr} {o : HO} {c : Cell} (hp : H p = none) (hc : CellOk K T (m ++ [p]) (upd H p o) p c) (hl : c.lt S.length = true) : StOk K T (m ++ [p]) (S ++ [c]) (upd H p o) where
  len := by simp [s.len]
  cell := fun i a c' h1 h2 => by
    by_cases hi : i < m.length
    · rw [List.getElem?_append_left hi] at h1
      rw [List.getElem?_append_left (by rw [← s.len]; exact hi)] at h2
      obtain ⟨q, l⟩ := s.cell i a c' h1 h2
      obtain ⟨u, e⟩ := q.there
      exact ⟨q.grow (Grow.own hp) (upd_ne (ne_of_none e hp)), l⟩
    · have hlt := (List.getElem?_eq_some_iff.mp h1).1
      rw [List.length_append, List.length_singleton] at hlt
      have e : i = m.length := by omega
      subst e
      rw [List.getElem?_append_right (Nat.le_refl _), Nat.sub_self] at h1
      rw [s.len, List.getElem?_append_right (Nat.le_refl _), Nat.sub_self] at h2
      have h1' : p = a := by simpa using h1
      have h2' : c = c' := by simpa using h2
      subst h1' h2'
      rw [s.len]
      exact ⟨hc, hl⟩
  nd := by
    rw [List.nodup_append]
    exact ⟨s.nd, by simp, fun a ha b hb z => by
      have e : b = p := by simpa using hb
      subst e; subst z
      exact (s.fresh hp).1 ha⟩
  hid := fun a ha => by
    obtain ⟨⟨u, e⟩, n⟩ := s.hid a ha
    refine ⟨⟨u, by rw [upd_ne (ne_of_none e hp)]; exact e⟩, fun z => ?_⟩
    rcases List.mem_append.mp z with z | z
    · exact n z
    · have e1 : a = p := by simpa using z
      subst e1
      rw [hp] at e; cases e
/-- a cell is written -/
theorem StOk.put (s : StOk K T m S H) {i : Nat} {p : Addr} {o : HO} {c : Cell} (hp : m[i]? = some p) (hc : CellOk K T m (upd H p o) p c) (hl : c.lt i = true) : StOk K T m (S.set i c) (upd H p o) where
  len := by simp [s.len]
  cell := fun j a c' h1 h2 => by
    by_cases e : j = i
    · subst e
      rw [hp] at h1; cases h1
      have hi : j < S.length := by rw [← s.len]; exact (List.getElem?_eq_some_iff.mp hp).1
      rw [List.getElem?_set_self hi] at h2; cases h2
      exact ⟨hc, hl⟩
    · rw [List.getElem?_set_ne (Ne.symm e)] at h2
      obtain ⟨q, l⟩ := s.cell j a c' h1 h2
      refine ⟨q.grow (Grow.write (List.mem_of_getElem? hp)) (upd_ne fun z => e ?_), l⟩
      subst z
      obtain ⟨k1, e1⟩ := List.getElem?_eq_some_iff.mp h1
      obtain ⟨k2, e2⟩ := List.getElem?_eq_some_iff.mp hp
      exact (List.getElem_inj s.nd).mp (e1.trans e2.symm)
  nd := s.nd
  hid := fun a ha => by
    obtain ⟨⟨u, e⟩, n⟩ := s.hid a ha
    exact ⟨⟨u, by rw [upd_ne (fun z => n (by rw [z]; exact List.mem_of_getElem? hp))]; exact e⟩, n⟩
/-- the later cells are let go -/
theorem CellOk.take {a : Addr} {c : Cell} {n : Nat} (h : CellOk K T m H a c) (l : c.lt n = true) : CellOk K T (m.take n) H a c := by
  cases c with
  | lst ds => obtain ⟨vs, q, r⟩ := h; exact ⟨vs, q, r.take l⟩
  | ins c ks ds => obtain ⟨dx, fs, q, r⟩ := h; exact ⟨dx, fs, q, r.take l⟩
  | dct _ _ => exact h.elim
mutual
theorem D.lt_mono {i n : Nat} (h : i ≤ n) : ∀ d : D, d.lt i = true → d.lt n = true
  | .non, _ => rfl
  | .bl _, _ => rfl
  | .int _, _ => rfl
  | .str _, _ => rfl
  | .fn _, _ => rfl
  | .ref j, q => by rw [D.lt] at q ⊢; exact decide_eq_true (Nat.lt_of_lt_of_le (of_decide_eq_true q) h)
  | .tup xs, q => by rw [D.lt] at q ⊢; exact D.lts_mono h xs q
  | .lst xs, q => by rw [D.lt] at q ⊢; exact D.lts_mono h xs q
  | .scr xs, q => by rw [D.lt] at q ⊢; exact D.lts_mono h xs q
  | .obj _ _ vs, q => by rw [D.lt] at q ⊢; exact D.lts_mono h vs q
theorem D.lts_mono {i n : Nat} (h : i ≤ n) : ∀ ds : List D, D.lts i ds = true → D.lts n ds = true
  | [], _ => by rw [D.lts]
  | d :: ds, q => by
    rw [D.lts, Bool.and_eq_true] at q ⊢
    exact ⟨D.lt_mono h d q.1, D.lts_mono h ds q.2⟩
end
theorem Cell.lt_mono {i n : Nat} (h : i ≤ n) (c : Cell) (q : c.lt i = true) : c.lt n = true := by
  cases c with
  | lst xs => exact D.lts_mono h xs q
  | ins _ _ vs => exact D.lts_mono h vs q
  | dct ks vs =>
    simp only [Cell.lt, Bool.and_eq_true] at q ⊢
    exact ⟨D.lts_mono h ks q.1, D.lts_mono h vs q.2⟩
theorem StOk.cutTo (s : StOk K T m S H) (n : Nat) : StOk K T (m.take n) (S.take n) H where
  len := by simp [s.len]
  cell := fun i a c h1 h2 => by
    have hi : i < n := by
      have := (List.getElem?_eq_some_iff.mp h1).1
      rw [List.length_take] at this
      omega
    rw [List.getElem?_take_of_lt hi] at h1 h2
    obtain ⟨q, l⟩ := s.cell i a c h1 h2
    exact ⟨q.take (Cell.lt_mono (Nat.le_of_lt hi) c l), l⟩
  nd := s.nd.sublist (List.take_sublist _ _)
  hid := fun a ha => ⟨(s.hid a ha).1, fun z => (s.hid a ha).2 (List.mem_of_mem_take z)⟩
theorem Grow.cutTo {n : Nat} (g : Grow m H m' H') (h : n = m.length) : Grow m H (m'.take n) H' ∧ m'.take n = m := by
  subst h
  obtain ⟨t, e⟩ := g.pre
  have q : m'.take m.length = m := by rw [← e]; simp
  rw [q]
  exact ⟨⟨List.prefix_refl _, g.keep, fun _ h => .inl h⟩, rfl⟩
end
section
variable {K : PySem.W.Frag} {T : Txt} {l : List Addr} {m m' : List Addr} {S : Store} {H H' : Hp} {ρ : Env} {σ : L2.St} {p : Addr}
theorem CellOk.tr (hm : ∀ (i : Nat) (a : Addr), m[i]? = some a → m'[i]? = some a) (g : ∀ a o, H a = some o → Outs T m a → H' a = some o ∧ Outs (T.hs l) m' a) {a : Addr} (e : H' a = H a) {c : Cell} (h : CellOk K T m H a c) : CellOk K (T.hs l) m' H' a c := by
  cases c with
  | lst ds => obtain ⟨vs, q, r⟩ := h; exact ⟨vs, e.trans q, r.tr hm g⟩
  | ins c ks ds => obtain ⟨dx, fs, q, r⟩ := h; exact ⟨dx, fs, e.trans q, r.tr hm g⟩
  | dct _ _ => exact h.elim
/-- states of the heap beside p -/
theorem StOk.tr (s : StOk K T m S H) (g : ∀ a o, H a = some o → Outs T m a → H' a = some o ∧ Outs (T.hs l) m a) (hc : ∀ a ∈ m, H' a = H a) (hl : ∀ a ∈ l, (∃ o, H' a = some o) ∧ a ∉ m) : StOk K (T.hs l) m S H' where
  len := s.len
  cell := fun i a c h1 h2 => ⟨(s.cell i a c h1 h2).1.tr (fun _ _ h => h) g (hc a (List.mem_of_getElem? h1)), (s.cell i a c h1 h2).2⟩
  nd := s.nd
  hid := hl
theorem Sim.tr (s : Sim K T m ρ S σ H) (g : ∀ a o, H a = some o → Outs T m a → H' a = some o ∧ Outs (T.hs l) m a) (hc : ∀ a ∈ m, H' a = H a) (hl : ∀ a ∈ l, (∃ o, H' a = some o) ∧ a ∉ m) : Sim K (T.hs l) m ρ S σ H' where
  st := s.st.tr g hc hl
  len := s.len
  env := fun i d h => let ⟨v, h1, h2⟩ := s.env i d h; ⟨v, h1, h2.tr (fun _ _ h => h) g⟩
theorem tr_hide {o : HO} (hp : H p = none) : ∀ a u, H a = some u → Outs T m a → (upd H p o) a = some u ∧ Outs (T.hide p) m a := fun a u e n => by
  have ne : a ≠ p := ne_of_none e hp
  refine ⟨by rw [upd_ne ne]; exact e, n.1, fun z => ?_⟩
  rcases List.mem_cons.mp z with z | z
  · exact ne z
  · exact n.2 z
theorem tr_put {o : HO} : ∀ a u, H a = some u → Outs (T.hide p) m a → (upd H p o) a = some u ∧ Outs (T.hide p) m a := fun a u e n => by
  have ne : a ≠ p := fun z => n.2 (by rw [z]; exact List.mem_cons_self)
  exact ⟨by rw [upd_ne ne]; exact e, n⟩
theorem tr_show : ∀ a u, H a = some u → Outs (T.hide p) m a → H a = some u ∧ Outs T m a := fun a u e n => ⟨e, n.1, fun z => n.2 (List.mem_cons_of_mem _ z)⟩
/-- a new object is hidden -/
theorem Sim.hide {o : HO} (s : Sim K T m ρ S σ H) (hp : H p = none) : Sim K (T.hide p) m ρ S σ (upd H p o) := by
  refine Sim.tr s (tr_hide hp) (fun a ha => ?_) fun a ha => ?_
  · obtain ⟨u, e⟩ := s.st.there ha
    exact upd_ne (ne_of_none e hp)
  · rcases List.mem_cons.mp ha with z | z
    · subst z
      exact ⟨⟨o, upd_same⟩, (s.st.fresh hp).1⟩
    · obtain ⟨⟨u, e⟩, n⟩ := s.st.hid a z
      exact ⟨⟨u, by rw [upd_ne (ne_of_none e hp)]; exact e⟩, n⟩
/-- the hidden object is written -/
theorem Sim.hput {o : HO} (s : Sim K (T.hide p) m ρ S σ H) : Sim K (T.hide p) m ρ S σ (upd H p o) := by
  have np : p ∉ m := (s.st.hid p List.mem_cons_self).2
  refine Sim.tr (T := T.hide p) (l := p :: T.hid) s tr_put (fun a ha => upd_ne fun z => np (by rw [← z]; exact ha)) fun a ha => ?_
  obtain ⟨⟨u, e⟩, n⟩ := s.st.hid a ha
  refine ⟨?_, n⟩
  by_cases z : a = p
  · subst z; exact ⟨o, upd_same⟩
  · exact ⟨u, by rw [upd_ne z]; exact e⟩
theorem Reps.hput {o : HO} {vs : List V} {ds : List D} (r : Reps K (T.hide p) m H vs ds) : Reps K (T.hide p) m (upd H p o) vs ds := Reps.tr (T := T.hide p) (l := p :: T.hid) (fun _ _ h => h) tr_put r
theorem Sim.unhide (s : Sim K (T.hide p) m ρ S σ H) : Sim K T m ρ S σ H := Sim.tr (T := T.hide p) (l := T.hid) s tr_show (fun _ _ => rfl) fun a ha => s.st.hid a (List.mem_cons_of_mem _ ha)
theorem Reps.unhide {vs : List V} {ds : List D} (r : Reps K (T.hide p) m H vs ds) : Reps K T m H vs ds := Reps.tr (T := T.hide p) (l := T.hid) (fun _ _ h => h) tr_show r
theorem Reps.hide {o : HO} {vs : List V} {ds : List D} (hp : H p = none) (r : Reps K T m H vs ds) : Reps K (T.hide p) m (upd H p o) vs ds := Reps.tr (l := p :: T.hid) (fun _ _ h => h) (tr_hide hp) r
/-- the hidden list comes forth as a cell -/
theorem Sim.forth {vs : List V} {ds : List D} (hn : p ∉ T.hid) (s : Sim K (T.hide p) m ρ S σ H) (hp : H p = some (.lst vs)) (r : Reps K (T.hide p) m H vs ds) : Sim K T (m ++ [p]) ρ (S ++ [.lst ds]) σ H := by
  have np : p ∉ m := (s.st.hid p List.mem_cons_self).2
  have hm : ∀ (i : Nat) (a : Addr), m[i]? = some a → (m ++ [p])[i]? = some a := fun i a h => by
    rw [List.getElem?_append_left (List.getElem?_eq_some_iff.mp h).1]; exact h
  have g : ∀ a o, H a = some o → Outs (T.hide p) m a → H a = some o ∧ Outs T (m ++ [p]) a := fun a o e n => by
    refine ⟨e, fun z => ?_, fun z => n.2 (List.mem_cons_of_mem _ z)⟩
    rcases List.mem_append.mp z with z | z
    · exact n.1 z
    · have e1 : a = p := by simpa using z
      exact n.2 (by rw [e1]; exact List.mem_cons_self)
  refine ⟨⟨by simp [s.st.len], fun i a c h1 h2 => ?_, ?_, fun a ha => ?_⟩, s.len, fun i d h => let ⟨v, h1, h2⟩ := s.env i d h; ⟨v, h1, Rep.tr (T := T.hide p) (l := T.hid) hm g h2⟩⟩
  · by_cases hi : i < m.length
    · rw [List.getElem?_append_left hi] at h1
      rw [List.getElem?_append_left (by rw [← s.st.len]; exact hi)] at h2
      obtain ⟨q, lt⟩ := s.st.cell i a c h1 h2
      exact ⟨CellOk.tr (T := T.hide p) (l := T.hid) hm g rfl q, lt⟩
    · have hlt := (List.getElem?_eq_some_iff.mp h1).1
      rw [List.length_append, List.length_singleton] at hlt
      have e : i = m.length := by omega
      subst e
      rw [List.getElem?_append_right (Nat.le_refl _), Nat.sub_self] at h1
      rw [s.st.len, List.getElem?_append_right (Nat.le_refl _), Nat.sub_self] at h2
      have h1' : p = a := by simpa using h1
      have h2' : Cell.lst ds = c := by simpa using h2
      subst h1' h2'
      exact ⟨⟨vs, hp, Reps.tr (T := T.hide p) (l := T.hid) hm g r⟩, r.ltm⟩
  · rw [List.nodup_append]
    exact ⟨s.st.nd, by simp, fun a ha b hb z => by
      have e : b = p := by simpa using hb
      subst e; subst z
      exact np ha⟩
  · obtain ⟨o, n⟩ := s.st.hid a (List.mem_cons_of_mem _ ha)
    refine ⟨o, fun z => ?_⟩
    rcases List.mem_append.mp z with z | z
    · exact n z
    · have e : a = p := by simpa using z
      exact hn (by rw [← e]; exact ha)
/-- later, what is hidden written -/
structure Grow1 (T : Txt) (m : List Addr) (H : Hp) (m' : List Addr) (H' : Hp) : Prop where
  pre : m <+: m'
  keep : ∀ a o, H a = some o → Outs T m a → H' a = some o
  new : ∀ a, a ∈ m' → a ∈ m ∨ H a = none
theorem Grow.one (g : Grow m H m' H') : Grow1 T m H m' H' := ⟨g.pre, fun a o e n => g.keep a o e n.1, g.new⟩
theorem Grow1.notIn (g : Grow1 T m H m' H') {a : Addr} {o : HO} (h : H a = some o) (n : a ∉ m) : a ∉ m' := fun z => by
  rcases g.new a z with q | q
  · exact n q
  · rw [q] at h; cases h
/-- at a later state, more hidden -/
theorem tr_grow (g : Grow1 T m H m' H') (hl : ∀ a ∈ l, a ∈ T.hid ∨ H a = none) : (∀ (i : Nat) (a : Addr), m[i]? = some a → m'[i]? = some a) ∧ ∀ a o, H a = some o → Outs T m a → H' a = some o ∧ Outs (T.hs l) m' a := by
  refine ⟨fun i a h => ?_, fun a o e n => ⟨g.keep a o e n, g.notIn e n.1, fun z => ?_⟩⟩
  · obtain ⟨t, e⟩ := g.pre
    rw [← e]
    exact (List.getElem?_append_left (List.getElem?_eq_some_iff.mp h).1).trans h
  · rcases hl a z with q | q
    · exact n.2 q
    · rw [q] at e; cases e
theorem Rep.later {v : V} {d : D} (r : Rep K T m H v d) (g : Grow1 T m H m' H') (hl : ∀ a ∈ l, a ∈ T.hid ∨ H a = none) : Rep K (T.hs l) m' H' v d := r.tr (tr_grow g hl).1 (tr_grow g hl).2
theorem Reps.later {vs : List V} {ds : List D} (r : Reps K T m H vs ds) (g : Grow1 T m H m' H') (hl : ∀ a ∈ l, a ∈ T.hid ∨ H a = none) : Reps K (T.hs l) m' H' vs ds := r.tr (tr_grow g hl).1 (tr_grow g hl).2
end
end RG
set_option Elab.async false
set_option linter.all false
set_option maxRecDepth 100000
/-! Each expression of the text does what the small language says: one rule a construct. -/
namespace RG
open PySem PySem.Spec PyProof.Rows L2

/-- how an exception lies -/
def RepX (T : Txt) (H : Hp) (cls : Value) (dd : Option Addr) (x : Exc) : Prop :=
  cls = .ref (T.cls x.cls) ∧ match x.arg with
  | .str z => ∃ p, dd = some p ∧ H p = some (.xd [(T.xat x.cls, .str z)])
  | _ => dd = none

section
variable {α β γ δ : Type} (K : PySem.W.Frag) (T : Txt) (Rl : List Addr → Hp → β → α → Prop) (W : WX) (σ : L2.St)
/-- what the small language's result promises of the machine -/
def OkR (m : List Addr) (ρ : Env) (H : Hp) (r : R α) (Q : β → Hp → Prop) : Prop :=
  match r with
  | some (.ok d S) => ∀ m' v H', Grow m H m' H' → Sim K T m' ρ S σ H' → Rl m' H' v d → Q v H'
  | some (.ex x S) => ∀ m' cls dd H', Grow m H m' H' → Sim K T m' ρ S σ H' → RepX T H' cls dd x → W cls dd σ H'
  | none => False
end
section
variable {α β γ δ : Type} {K : PySem.W.Frag} {T : Txt} {Rl : List Addr → Hp → β → α → Prop} {Rl1 : List Addr → Hp → δ → γ → Prop} {W : WX} {σ : L2.St} {m m1 : List Addr} {ρ : Env} {H H1 : Hp}
theorem OkR.mono {r : R α} {Q Q' : β → Hp → Prop} (h : OkR K T Rl W σ m ρ H r Q) (q : ∀ v H, Q v H → Q' v H) : OkR K T Rl W σ m ρ H r Q' := by
  cases r with
  | none => exact h
  | some r => cases r with
    | ok d S => exact fun m' v H' g s r => q _ _ (h m' v H' g s r)
    | ex x S => exact h
theorem OkR.grow {r : R α} {Q : β → Hp → Prop} (g : Grow m H m1 H1) (h : OkR K T Rl W σ m ρ H r Q) : OkR K T Rl W σ m1 ρ H1 r Q := by
  cases r with
  | none => exact h
  | some r => cases r with
    | ok d S => exact fun m' v H' g' s r => h m' v H' (g.trans g') s r
    | ex x S => exact fun m' cls dd H' g' s r => h m' cls dd H' (g.trans g') s r
/-- the first of two steps -/
theorem OkR.bnd {r : R γ} {k : γ → Store → R α} {Q : β → Hp → Prop} {Q1 : δ → Hp → Prop} (h : OkR K T Rl W σ m ρ H (RG.bnd r k) Q)
    (hk : ∀ m1 v1 H1 d S1, Grow m H m1 H1 → Sim K T m1 ρ S1 σ H1 → Rl1 m1 H1 v1 d → OkR K T Rl W σ m1 ρ H1 (k d S1) Q → Q1 v1 H1) : OkR K T Rl1 W σ m ρ H r Q1 := by
  cases r with
  | none => exact h.elim
  | some r => cases r with
    | ok d S =>
      intro m' v H' g s rr
      exact hk m' v H' d S g s rr (OkR.grow g h)
    | ex x S => exact h
theorem OkR.pure {d : α} {S : Store} {Q : β → Hp → Prop} (h : OkR K T Rl W σ m ρ H (RG.ret d S) Q) {v : β} (s : Sim K T m ρ S σ H) (r : Rl m H v d) : Q v H := h m v H (Grow.refl m H) s r
end

section
variable {K : PySem.W.Frag} {T : Txt} {m : List Addr} {ρ : Env} {S : Store} {σ : L2.St} {H : Hp}
theorem Sim.beside (s : Sim K T m ρ S σ H) {p : Addr} {o : HO} (hp : H p = none) : Sim K T m ρ S σ (upd H p o) :=
  ⟨s.st.beside hp, s.len, fun i d h => let ⟨v, h1, h2⟩ := s.env i d h; ⟨v, h1, h2.grow (Grow.fresh hp)⟩⟩
theorem Sim.more (s : Sim K T m ρ S σ H) {p : Addr} {vs : List V} {ds : List D} (hp : H p = none) (r : Reps K T m H vs ds) : Sim K T (m ++ [p]) ρ (S ++ [.lst ds]) σ (upd H p (.lst vs)) :=
  ⟨s.st.more hp ⟨vs, upd_same, r.grow (Grow.own hp)⟩ (by rw [← s.st.len]; exact r.ltm), s.len, fun i d h => let ⟨v, h1, h2⟩ := s.env i d h; ⟨v, h1, h2.grow (Grow.own hp)⟩⟩
/-- a tuple just laid -/
theorem rep_tup (s : StOk K T m S H) {p : Addr} {xs : List V} {ds : List D} (hp : H p = none) (r : Reps K T m H xs ds) : Rep K T m (upd H p (.tup xs)) (.ref p) (.tup ds) :=
  .tup (.inl upd_same) (s.fresh hp) (r.grow (Grow.fresh hp))
theorem rep_lst (s : StOk K T m S H) {p : Addr} {xs : List V} {ds : List D} (hp : H p = none) (r : Reps K T m H xs ds) : Rep K T m (upd H p (.lst xs)) (.ref p) (.lst ds) :=
  .lst upd_same (s.fresh hp) (r.grow (Grow.fresh hp))
theorem Rep.tupD {v : V} {ds : List D} (r : Rep K T m H v (.tup ds)) : ∃ a xs, v = .ref a ∧ SqT K H a xs ∧ Reps K T m H xs ds := by
  cases r with
  | tup h _ r => exact ⟨_, _, rfl, .inl h, r⟩
  | tupK h r => exact ⟨_, _, rfl, h H, r⟩
theorem Rep.lstD {v : V} {ds : List D} (r : Rep K T m H v (.lst ds)) : ∃ a xs, v = .ref a ∧ H a = some (.lst xs) ∧ Reps K T m H xs ds := by
  cases r with
  | lst h _ r => exact ⟨_, _, rfl, h, r⟩
theorem Rep.scrD {v : V} {ds : List D} (r : Rep K T m H v (.scr ds)) : ∃ a xs, v = .ref a ∧ SqL K H a xs ∧ Reps K T m H xs ds := by
  cases r with
  | scr h _ r => exact ⟨_, _, rfl, .inl h, r⟩
  | scrK h r => exact ⟨_, _, rfl, h H, r⟩
/-- a list's items -/
theorem litems_rep (s : StOk K T m S H) {v : V} {d : D} {ds : List D} (r : Rep K T m H v d) (h : litems S d = some ds) : ∃ a xs, v = .ref a ∧ H a = some (.lst xs) ∧ Reps K T m H xs ds := by
  cases d with
  | lst xs =>
    have e : xs = ds := by simpa [litems] using h
    subst e
    exact r.lstD
  | ref i =>
    cases r with
    | ref hm =>
      obtain ⟨c, hc, q, _⟩ := s.at hm
      simp only [litems, hc] at h
      cases c with
      | lst xs =>
        have e : xs = ds := by simpa using h
        subst e
        obtain ⟨vs, e, rr⟩ := q
        exact ⟨_, vs, rfl, e, rr⟩
      | _ => cases h
  | _ => cases h
theorem items_rep (s : StOk K T m S H) {v : V} {d : D} {ds : List D} (r : Rep K T m H v d) (h : items S d = some ds) : ∃ a xs, v = .ref a ∧ (SqL K H a xs ∨ SqT K H a xs) ∧ Reps K T m H xs ds := by
  cases d with
  | tup xs =>
    have e : xs = ds := by simpa [items] using h
    subst e
    obtain ⟨a, ys, e, q, rr⟩ := r.tupD
    exact ⟨a, ys, e, .inr q, rr⟩
  | lst xs =>
    obtain ⟨a, ys, e, q, rr⟩ := litems_rep s r (show litems S (.lst xs) = some ds from h)
    exact ⟨a, ys, e, .inl (SqL.of q), rr⟩
  | ref i =>
    obtain ⟨a, ys, e, q, rr⟩ := litems_rep s r (show litems S (.ref i) = some ds from h)
    exact ⟨a, ys, e, .inl (SqL.of q), rr⟩
  | _ => cases h
end

/-! ### == of data -/
mutual
def toPy : D → PyData
  | .bl b => .bool b
  | .int i => .int i
  | .str x => .str x
  | .tup xs => .tuple (toPys xs)
  | .lst xs => .list (toPys xs)
  | _ => .none
def toPys : List D → List PyData
  | [] => []
  | x :: xs => toPy x :: toPys xs
end
section
variable {K : PySem.W.Frag} {T : Txt} {m : List Addr} {H : Hp}
mutual
theorem Rep.dp : ∀ {k : Nat} {v : V} {d : D}, Rep K T m H v d → d.plain k = true → Dp K H v (toPy d)
  | _, _, _, .non, _ => .non
  | _, _, _, .bl b, _ => .bl b
  | _, _, _, .int i, _ => .int i
  | _, _, _, .str x, _ => .str x
  | k + 1, _, _, .tup r _ h, p => .tup (.inl r) (Reps.dp h (by rw [D.plain] at p; exact p))
  | k + 1, _, _, .tupK r h, p => .tup (r H) (Reps.dp h (by rw [D.plain] at p; exact p))
  | k + 1, _, _, .lst r _ h, p => .lst (SqL.of r) (Reps.dp h (by rw [D.plain] at p; exact p))
  | _, _, _, .scr _ _ _, p => by simp [D.plain] at p
  | _, _, _, .scrK _ _, p => by simp [D.plain] at p
  | 0, _, _, .tup _ _ _, p => by simp [D.plain] at p
  | 0, _, _, .tupK _ _, p => by simp [D.plain] at p
  | 0, _, _, .lst _ _ _, p => by simp [D.plain] at p
  | _, _, _, .ref _, p => by simp [D.plain] at p
  | _, _, _, .obj _ _ _, p => by simp [D.plain] at p
  | _, _, _, .fn _, p => by simp [D.plain] at p
theorem Reps.dp : ∀ {k : Nat} {vs : List V} {ds : List D}, Reps K T m H vs ds → D.plains k ds = true → DpAll K H vs (toPys ds)
  | _, _, _, .nil, _ => .nil
  | _, _, _, .cons h r, p => by
    rw [D.plains, Bool.and_eq_true] at p
    exact .cons (Rep.dp h p.1) (Reps.dp r p.2)
end
mutual
theorem canLay_of : ∀ (k : Nat) (d : D), d.plain k = true → (toPy d).canLay0 = true
  | _, .non, _ => rfl
  | _, .bl b, _ => rfl
  | _, .int i, _ => rfl
  | _, .str x, p => by rw [D.plain] at p; exact p
  | k + 1, .tup xs, p => by rw [D.plain] at p; rw [toPy, PyData.canLay0]; exact canLays_of k xs p
  | k + 1, .lst xs, p => by rw [D.plain] at p; rw [toPy, PyData.canLay0]; exact canLays_of k xs p
  | 0, .tup _, p => by simp [D.plain] at p
  | 0, .lst _, p => by simp [D.plain] at p
  | _, .ref _, p => by simp [D.plain] at p
  | _, .scr _, p => by simp [D.plain] at p
  | _, .obj _ _ _, p => by simp [D.plain] at p
  | _, .fn _, p => by simp [D.plain] at p
theorem canLays_of : ∀ (k : Nat) (ds : List D), D.plains k ds = true → PyData.canLayAll0 (toPys ds) = true
  | _, [], _ => rfl
  | k, d :: ds, p => by
    rw [D.plains, Bool.and_eq_true] at p
    rw [toPys, PyData.canLayAll0, canLay_of k d p.1, canLays_of k ds p.2]; rfl
end
mutual
theorem depth_of : ∀ (k : Nat) (d : D), d.plain k = true → (toPy d).depth ≤ k
  | _, .non, _ => Nat.zero_le _
  | _, .bl b, _ => Nat.zero_le _
  | _, .int i, _ => Nat.zero_le _
  | _, .str x, _ => Nat.zero_le _
  | k + 1, .tup xs, p => by rw [D.plain] at p; rw [toPy, PyData.depth]; exact Nat.succ_le_succ (depths_of k xs p)
  | k + 1, .lst xs, p => by rw [D.plain] at p; rw [toPy, PyData.depth]; exact Nat.succ_le_succ (depths_of k xs p)
  | 0, .tup _, p => by simp [D.plain] at p
  | 0, .lst _, p => by simp [D.plain] at p
  | _, .ref _, p => by simp [D.plain] at p
  | _, .scr _, p => by simp [D.plain] at p
  | _, .obj _ _ _, p => by simp [D.plain] at p
  | _, .fn _, p => by simp [D.plain] at p
theorem depths_of : ∀ (k : Nat) (ds : List D), D.plains k ds = true → PyData.depthAll (toPys ds) ≤ k
  | _, [], _ => Nat.zero_le _
  | k, d :: ds, p => by
    rw [D.plains, Bool.and_eq_true] at p
    rw [toPys, PyData.depthAll]
    exact Nat.max_le.mpr ⟨depth_of k d p.1, depths_of k ds p.2⟩
end
mutual
theorem eqv_of : ∀ (a b : D) (k : Nat), a.plain k = true → b.plain k = true → PyData.eqv (toPy a) (toPy b) = a.eqv b
  | .tup xs, .tup ys, k + 1, p, q => by
    rw [D.plain] at p q
    simp only [toPy, PyData.eqv, D.eqv]
    exact eqvs_of xs ys k p q
  | .lst xs, .lst ys, k + 1, p, q => by
    rw [D.plain] at p q
    simp only [toPy, PyData.eqv, D.eqv]
    exact eqvs_of xs ys k p q
  | .non, b, k, p, q => by cases b <;> cases k <;> simp_all [toPy, PyData.eqv, D.eqv, D.plain]
  | .bl _, b, k, p, q => by cases b <;> cases k <;> simp_all [toPy, PyData.eqv, D.eqv, D.plain]
  | .int _, b, k, p, q => by cases b <;> cases k <;> simp_all [toPy, PyData.eqv, D.eqv, D.plain]
  | .str _, b, k, p, q => by cases b <;> cases k <;> simp_all [toPy, PyData.eqv, D.eqv, D.plain]
  | .tup _, .non, k, p, q => by simp [toPy, PyData.eqv, D.eqv]
  | .tup _, .bl _, k, p, q => by simp [toPy, PyData.eqv, D.eqv]
  | .tup _, .int _, k, p, q => by simp [toPy, PyData.eqv, D.eqv]
  | .tup _, .str _, k, p, q => by simp [toPy, PyData.eqv, D.eqv]
  | .tup _, .lst _, k, p, q => by simp [toPy, PyData.eqv, D.eqv]
  | .lst _, .non, k, p, q => by simp [toPy, PyData.eqv, D.eqv]
  | .lst _, .bl _, k, p, q => by simp [toPy, PyData.eqv, D.eqv]
  | .lst _, .int _, k, p, q => by simp [toPy, PyData.eqv, D.eqv]
  | .lst _, .str _, k, p, q => by simp [toPy, PyData.eqv, D.eqv]
  | .lst _, .tup _, k, p, q => by simp [toPy, PyData.eqv, D.eqv]
  | .tup _, .tup _, 0, p, q => by simp [D.plain] at p
  | .lst _, .lst _, 0, p, q => by simp [D.plain] at p
  | .ref _, _, k, p, q => by simp [D.plain] at p
  | .scr _, _, k, p, q => by simp [D.plain] at p
  | .obj _ _ _, _, k, p, q => by simp [D.plain] at p
  | .fn _, _, k, p, q => by simp [D.plain] at p
  | .tup _, .ref _, k, p, q => by simp [D.plain] at q
  | .tup _, .scr _, k, p, q => by simp [D.plain] at q
  | .lst _, .scr _, k, p, q => by simp [D.plain] at q
  | .tup _, .obj _ _ _, k, p, q => by simp [D.plain] at q
  | .tup _, .fn _, k, p, q => by simp [D.plain] at q
  | .lst _, .ref _, k, p, q => by simp [D.plain] at q
  | .lst _, .obj _ _ _, k, p, q => by simp [D.plain] at q
  | .lst _, .fn _, k, p, q => by simp [D.plain] at q
theorem eqvs_of : ∀ (xs ys : List D) (k : Nat), D.plains k xs = true → D.plains k ys = true → PyData.eqvAll (toPys xs) (toPys ys) = D.eqvs xs ys
  | [], [], _, _, _ => rfl
  | [], _ :: _, _, _, _ => rfl
  | _ :: _, [], _, _, _ => rfl
  | x :: xs, y :: ys, k, p, q => by
    rw [D.plains, Bool.and_eq_true] at p q
    simp only [toPys, PyData.eqvAll, D.eqvs]
    rw [eqv_of x y k p.1 q.1, eqvs_of xs ys k p.2 q.2]
end
theorem shaped_of {d : D} (p : d.plain 20 = true) : SeqAt.shaped (toPy d) = true := by
  have h := depth_of 20 d p
  show ((toPy d).canLay0 && decide ((toPy d).depth ≤ 64)) = true
  rw [Bool.and_eq_true]
  exact ⟨canLay_of 20 d p, decide_eq_true (by omega)⟩
end

/-! ### binary operators -/
/-- the heap, or one new object more -/
def Beside (H H' : Hp) : Prop := H' = H ∨ ∃ p o, H p = none ∧ H' = upd H p o
def rBin (K : PySem.W.Frag) (T : Txt) (o : Op) : R2 := fun x y H Q => ∃ (m : List Addr) (dx dy dz : D), (∀ p, H p = none → Outs T m p) ∧ Rep K T m H x dx ∧ Rep K T m H y dy ∧ binop o dx dy = some dz ∧ ∀ z H', Beside H H' → Rep K T m H' z dz → Q z H'
section
variable {X : Cx} {T : Txt}
theorem OpR.or {f : Value → Value → Sem Value} {r r' : R2} (h : OpR X f r) (h' : OpR X f r') : OpR X f (fun x y H Q => r x y H Q ∨ r' x y H Q) := by
  intro pins s σ H x y v u Q I rx ry q
  rcases q with q | q
  · exact h pins s σ H x y v u Q I rx ry q
  · exact h' pins s σ H x y v u Q I rx ry q
theorem OpR.imp {f : Value → Value → Sem Value} {r r' : R2} (h : OpR X f r) (i : ∀ x y H Q, r' x y H Q → r x y H Q) : OpR X f r' := fun pins s σ H x y v u Q I rx ry q => h pins s σ H x y v u Q I rx ry (i _ _ _ _ q)
theorem small2 {n : Nat} (h : n ≤ 100000) : n ≤ sizeLine := Nat.le_trans h (by decide)
theorem bin_add : OpR X (binaryOp .Add) (rBin X.K T .add) := by
  refine OpR.imp (OpR.or op_add op_catA) ?_
  rintro x y H Q ⟨m, dx, dy, dz, fr, rx, ry, e, q⟩
  cases dx <;> cases dy <;> simp only [binop] at e <;> try cases e
  · cases rx; cases ry
    exact .inl ⟨_, _, rfl, rfl, q _ _ (.inl rfl) (.int _)⟩
  · rename_i xs ys
    split at e
    · cases e
      obtain ⟨a, vs, rfl, ha, ra⟩ := rx.tupD
      obtain ⟨b, us, rfl, hb, rb⟩ := ry.tupD
      have l1 := ra.length
      have l2 := rb.length
      refine .inr ⟨a, b, vs, us, rfl, rfl, ha, hb, small2 (by omega), fun z => ?_, fun z1 z2 => ?_, fun _ _ p hp => ?_⟩
      · subst z
        cases ra
        exact q _ _ (.inl rfl) ry
      · subst z2
        cases rb
        rw [List.append_nil] at q
        exact q _ _ (.inl rfl) rx
      · exact q _ _ (.inr ⟨p, _, hp, rfl⟩) (.tup (.inl upd_same) (fr p hp) ((ra.append rb).grow (Grow.fresh hp)))
    · cases e
theorem bin_sub : OpR X (binaryOp .Sub) (rBin X.K T .sub) := by
  refine OpR.imp op_sub ?_
  rintro x y H Q ⟨m, dx, dy, dz, fr, rx, ry, e, q⟩
  cases dx <;> cases dy <;> simp only [binop] at e <;> try cases e
  cases rx; cases ry
  exact ⟨_, _, rfl, rfl, q _ _ (.inl rfl) (.int _)⟩
theorem mul_ok {i j : Int} {H : Hp} {Q : VK} (hb : bitsOk i j = true) (q : Q (.int (i * j)) H) {r : R2} :
    ((rI CMul (fun i j => V.int (i * j)) (V.int i) (V.int j) H Q ∨ rI CMulX (fun i j => V.int (i * j)) (V.int i) (V.int j) H Q) ∨ r (V.int i) (V.int j) H Q) := by
  unfold bitsOk at hb
  simp only [Bool.or_eq_true, decide_eq_true_eq] at hb
  have b : ∀ x : Int, Builtin.Int.intBits x ≤ x.natAbs.log2 + 1 := fun x => by
    unfold Builtin.Int.intBits
    split <;> omega
  rcases hb with (hb | hb) | hb
  · exact .inl (.inl ⟨_, _, rfl, rfl, .inl ⟨by omega, by omega⟩, q⟩)
  · exact .inl (.inl ⟨_, _, rfl, rfl, .inr ⟨by omega, by omega⟩, q⟩)
  · refine .inl (.inr ⟨_, _, rfl, rfl, ?_, q⟩)
    have b1 := b i
    have b2 := b j
    unfold CMulX
    omega
theorem bin_mul : OpR X (binaryOp .Mult) (rBin X.K T .mul) := by
  refine OpR.imp (OpR.or (OpR.or op_mul op_mulX) op_repT) ?_
  rintro x y H Q ⟨m, dx, dy, dz, fr, rx, ry, e, q⟩
  cases dx <;> cases dy <;> simp only [binop] at e <;> try cases e
  · cases rx; cases ry
    split at e
    · rename_i hb
      cases e
      exact mul_ok hb (q _ _ (.inl rfl) (.int _))
    · cases e
  · split at e
    · rename_i hb
      cases e
      obtain ⟨a, vs, rfl, ha, ra⟩ := rx.tupD
      cases ry
      have l1 := ra.length
      refine .inr ⟨a, _, vs, rfl, rfl, ha, (fun z => by subst z; simp at l1; omega), hb.1, hb.2.1, by omega, fun p hp => ?_⟩
      exact q _ _ (.inr ⟨p, _, hp, rfl⟩) (.tup (.inl upd_same) (fr p hp) ((ra.rep _).grow (Grow.fresh hp)))
    · cases e
theorem bin_fdv : OpR X (binaryOp .FloorDiv) (rBin X.K T .fdv) := by
  refine OpR.imp (opI (C := fun _ j => j ≠ 0 ∧ j.natAbs.log2 < 9000) (g := fun i j => i.fdiv j) fun _ _ _ _ _ _ _ hc q => floordiv_int hc.1 q (.inl (PyProof.noPylong_of_log2 hc.2))) ?_
  rintro x y H Q ⟨m, dx, dy, dz, fr, rx, ry, e, q⟩
  cases dx <;> cases dy <;> simp only [binop] at e <;> try cases e
  cases rx; cases ry
  split at e
  · rename_i hb
    cases e
    simp only [divOk, Bool.and_eq_true, decide_eq_true_eq] at hb
    exact ⟨_, _, rfl, rfl, hb, q _ _ (.inl rfl) (.int _)⟩
  · cases e
theorem bin_mod : OpR X (binaryOp .Mod) (rBin X.K T .mod) := by
  refine OpR.imp op_modN ?_
  rintro x y H Q ⟨m, dx, dy, dz, fr, rx, ry, e, q⟩
  cases dx <;> cases dy <;> simp only [binop] at e <;> try cases e
  cases rx; cases ry
  split at e
  · rename_i hb
    cases e
    exact ⟨_, _, rfl, rfl, hb, q _ _ (.inl rfl) (.int _)⟩
  · cases e
theorem cmp_lt : OpR X (compareOp .Lt) (rBin X.K T .lt) := by
  refine OpR.imp op_lt ?_
  rintro x y H Q ⟨m, dx, dy, dz, fr, rx, ry, e, q⟩
  cases dx <;> cases dy <;> simp only [binop] at e <;> try cases e
  cases rx; cases ry
  exact ⟨_, _, rfl, rfl, q _ _ (.inl rfl) (.bl _)⟩
theorem cmp_le : OpR X (compareOp .LtE) (rBin X.K T .le) := by
  refine OpR.imp op_le ?_
  rintro x y H Q ⟨m, dx, dy, dz, fr, rx, ry, e, q⟩
  cases dx <;> cases dy <;> simp only [binop] at e <;> try cases e
  cases rx; cases ry
  exact ⟨_, _, rfl, rfl, q _ _ (.inl rfl) (.bl _)⟩
theorem cmp_gt : OpR X (compareOp .Gt) (rBin X.K T .gt) := by
  refine OpR.imp op_gt ?_
  rintro x y H Q ⟨m, dx, dy, dz, fr, rx, ry, e, q⟩
  cases dx <;> cases dy <;> simp only [binop] at e <;> try cases e
  cases rx; cases ry
  exact ⟨_, _, rfl, rfl, q _ _ (.inl rfl) (.bl _)⟩
theorem cmp_ge : OpR X (compareOp .GtE) (rBin X.K T .ge) := by
  refine OpR.imp op_ge ?_
  rintro x y H Q ⟨m, dx, dy, dz, fr, rx, ry, e, q⟩
  cases dx <;> cases dy <;> simp only [binop] at e <;> try cases e
  cases rx; cases ry
  exact ⟨_, _, rfl, rfl, q _ _ (.inl rfl) (.bl _)⟩
theorem binop_eq {a b z : D} (h : binop .eq a b = some z) : a.plain 20 = true ∧ b.plain 20 = true ∧ z = .bl (a.eqv b) := by
  unfold binop at h
  split at h <;> simp_all [D.plain, D.eqv]
  all_goals exact h.2.symm
theorem binop_ne {a b z : D} (h : binop .ne a b = some z) : a.plain 20 = true ∧ b.plain 20 = true ∧ z = .bl (!a.eqv b) := by
  unfold binop at h
  split at h <;> simp_all [D.plain, D.eqv]
  all_goals exact h.2.symm
theorem cmp_eq (hu : X.A.units + 64 < cLine) : OpR X (compareOp .Eq) (rBin X.K T .eq) := by
  refine OpR.imp (op_eqD hu) ?_
  rintro x y H Q ⟨m, dx, dy, dz, fr, rx, ry, e, q⟩
  obtain ⟨p1, p2, rfl⟩ := binop_eq e
  exact ⟨_, _, rx.dp p1, ry.dp p2, shaped_of p1, shaped_of p2, q _ _ (.inl rfl) (by rw [eqv_of _ _ 20 p1 p2]; exact .bl _)⟩
theorem cmp_ne (hu : X.A.units + 64 < cLine) : OpR X (compareOp .NotEq) (rBin X.K T .ne) := by
  refine OpR.imp (op_neD hu) ?_
  rintro x y H Q ⟨m, dx, dy, dz, fr, rx, ry, e, q⟩
  obtain ⟨p1, p2, rfl⟩ := binop_ne e
  exact ⟨_, _, rx.dp p1, ry.dp p2, shaped_of p1, shaped_of p2, q _ _ (.inl rfl) (by rw [eqv_of _ _ 20 p1 p2]; exact .bl _)⟩
end
end RG
set_option Elab.async false
set_option linter.all false
set_option maxRecDepth 100000
/-! The rules of the expressions. -/
namespace RG
open PySem PySem.Spec PyProof.Rows L2

section
variable {X : Cx}
theorem PE.imp {e : Expr} {t t' : TE} (h : PE X e t) (i : ∀ σ H Q, t' σ H Q → t σ H Q) : PE X e t' := ⟨fun pins s σ H Q I q => h.run pins s σ H Q I (i σ H Q q)⟩
theorem PT.imp {e : Expr} {t t' : TT} (h : PT X e t) (i : ∀ σ H Q, t' σ H Q → t σ H Q) : PT X e t' := ⟨fun pins s σ H Q I q => h.run pins s σ H Q I (i σ H Q q)⟩
theorem PA.imp {e : List Expr} {t t' : TA} (h : PA X e t) (i : ∀ σ H Q, t' σ H Q → t σ H Q) : PA X e t' := ⟨fun pos pins s σ H Q I q => h.run pos pins s σ H Q I (i σ H Q q)⟩
theorem PS.imp {e : Stmt} {t t' : TS} (h : PS X e t) (i : ∀ D σ H, t' D σ H → t D σ H) : PS X e t' := ⟨fun pins s σ H D I q => h.run pins s σ H D I (i D σ H q)⟩
theorem PE.bad {e : Expr} {t : TE} (i : ∀ σ H Q, ¬ t σ H Q) : PE X e t := ⟨fun pins s σ H Q I q => (i σ H Q q).elim⟩
theorem PT.bad {e : Expr} {t : TT} (i : ∀ σ H Q, ¬ t σ H Q) : PT X e t := ⟨fun pins s σ H Q I q => (i σ H Q q).elim⟩
theorem PS.bad {e : Stmt} {t : TS} (i : ∀ D σ H, ¬ t D σ H) : PS X e t := ⟨fun pins s σ H D I q => (i D σ H q).elim⟩
/-- one rule for each of many -/
theorem PE.some {ι : Type} {e : Expr} {t : ι → TE} (h : ∀ i, PE X e (t i)) : PE X e (fun σ H Q => ∃ i, t i σ H Q) := ⟨fun pins s σ H Q I ⟨i, q⟩ => (h i).run pins s σ H Q I q⟩
end

section
variable (K : PySem.W.Frag) (T : Txt) (P : Prog) (cl : Nat → List D → Store → R D) (W : WX)
def tE (e : E) : TE := fun σ H Q => ∃ m ρ S, Sim K T m ρ S σ H ∧ OkR K T (Rep K T) W σ m ρ H (ev P cl e ρ S) Q
def tEs (es : Es) : TA := fun σ H Q => ∃ m ρ S, Sim K T m ρ S σ H ∧ OkR K T (Reps K T) W σ m ρ H (evs P cl es ρ S) Q
/-- a new list: it stands nowhere else -/
def tL (l : L) : TE := fun σ H Q => ∃ m ρ S, Sim K T m ρ S σ H ∧ OkR K T (Reps K T) W σ m ρ H (evL P cl l ρ S) fun vs H1 => ∀ p, H1 p = none → Q (.ref p) (upd H1 p (.lst vs))
def tB (e : E) : TT := tTest (tE K T P cl W e)
end

section
variable {X : Cx} {T : Txt} {P : Prog} {cl : Nat → List D → Store → R D} {W : WX}

theorem se_bad {e : Expr} : PE X e ((tE X.K T P cl W) .bad) := PE.bad fun σ H Q ⟨_, _, _, _, h⟩ => h
theorem se_var {i : Nat} {x : Str} {pos : Pos} (hN : X.N[i]? = some x) (hv : Vis X.env.scope x) (hd : (x == ("__debug__" : Str)) = false) (hcd : (x == ("__classdict__" : Str)) = false) : PE X (.Name x pos) ((tE X.K T P cl W) (.var i)) := by
  refine PE.imp (pe_var hN hv hd hcd) ?_
  rintro σ H Q ⟨m, ρ, S, s, h⟩
  rw [ev] at h
  split at h
  · rename_i d e
    obtain ⟨v, h1, h2⟩ := s.env i d e
    exact ⟨v, h1, h.pure s h2⟩
  · exact h.elim
theorem se_lit {e : Expr} {v : V} {d : D} (h : PE X e (tC v)) (r : ∀ m H, Rep X.K T m H v d) : PE X e ((tE X.K T P cl W) (.lit d)) := by
  refine PE.imp h ?_
  rintro σ H Q ⟨m, ρ, S, s, h⟩
  rw [ev] at h
  exact h.pure s (r m H)
/-- two values, an operator -/
theorem se_op {o : Op} {a b : E} {σ : L2.St} {H : Hp} {Q : VK} (h : (tE X.K T P cl W) (.bin o a b) σ H Q) : tOp (rBin X.K T o) ((tE X.K T P cl W) a) ((tE X.K T P cl W) b) σ H Q := by
  obtain ⟨m, ρ, S, s, h⟩ := h
  rw [ev] at h
  refine ⟨m, ρ, S, s, h.bnd fun m1 x H1 dx S1 g1 s1 r1 h1 => ?_⟩
  refine ⟨m1, ρ, S1, s1, h1.bnd fun m2 y H2 dy S2 g2 s2 r2 h2 => ?_⟩
  cases e : binop o dx dy with
  | none => rw [e] at h2; exact h2.elim
  | some z =>
    rw [e] at h2
    refine ⟨m2, dx, dy, z, fun p hp => s2.st.fresh hp, r1.grow g2, r2, e, fun v H' b r => ?_⟩
    rcases b with rfl | ⟨p, o, hp, rfl⟩
    · exact h2 m2 v _ (Grow.refl _ _) s2 r
    · exact h2 m2 v _ (Grow.fresh hp) (s2.beside hp) r
theorem se_bin {op : Operator} {o : Op} {a b : Expr} {A B : E} {pos : Pos} (ho : OpR X (binaryOp op) (rBin X.K T o)) (ha : PE X a ((tE X.K T P cl W) A)) (hb : PE X b ((tE X.K T P cl W) B)) : PE X (.BinOp a op b pos) ((tE X.K T P cl W) (.bin o A B)) :=
  PE.imp (pe_op ho ha hb) fun _ _ _ h => se_op h
theorem se_cmp {op : CmpOp} {o : Op} {a b : Expr} {A B : E} {pos : Pos} (ho : OpR X (compareOp op) (rBin X.K T o)) (ha : PE X a ((tE X.K T P cl W) A)) (hb : PE X b ((tE X.K T P cl W) B)) (hm : behindInMarks op b = false) : PE X (.Compare a [op] [b] pos) ((tE X.K T P cl W) (.bin o A B)) :=
  PE.imp (pe_cmpR ho ha hb hm) fun _ _ _ h => se_op h
theorem st_cmp {op : CmpOp} {o : Op} {a b : Expr} {A B : E} {pos : Pos} (ho : OpR X (compareOp op) (rBin X.K T o)) (ha : PE X a ((tE X.K T P cl W) A)) (hb : PE X b ((tE X.K T P cl W) B)) (hm : behindInMarks op b = false) : PT X (.Compare a [op] [b] pos) ((tB X.K T P cl W) (.bin o A B)) :=
  PT.imp (pt_cmpR ho ha hb hm) fun _ _ _ h => se_op h
theorem se_neg {a : Expr} {A : E} {pos : Pos} (ha : PE X a ((tE X.K T P cl W) A)) : PE X (.UnaryOp .USub a pos) ((tE X.K T P cl W) (.neg A)) := by
  refine PE.imp (pe_un un_neg ha) ?_
  rintro σ H Q ⟨m, ρ, S, s, h⟩
  rw [ev] at h
  refine ⟨m, ρ, S, s, h.bnd fun m1 x H1 dx S1 g1 s1 r1 h1 => ?_⟩
  cases dx with
  | int i => cases r1; exact ⟨i, rfl, h1.pure s1 (.int _)⟩
  | _ => exact h1.elim
theorem chain_rd {o1 o2 : Op} {a b c : E} {σ : L2.St} {H : Hp} {Q : VK} (h : (tE X.K T P cl W) (.chain o1 o2 a b c) σ H Q) : tChain (rBin X.K T o1) (rBin X.K T o2) ((tE X.K T P cl W) a) ((tE X.K T P cl W) b) ((tE X.K T P cl W) c) σ H Q := by
  obtain ⟨m, ρ, S, s, h⟩ := h
  rw [ev] at h
  refine ⟨m, ρ, S, s, h.bnd fun m1 x H1 dx S1 g1 s1 r1 h1 => ?_⟩
  refine ⟨m1, ρ, S1, s1, h1.bnd fun m2 y H2 dy S2 g2 s2 r2 h2 => ?_⟩
  cases e : binop o1 dx dy with
  | none => rw [e] at h2; exact h2.elim
  | some z =>
    rw [e] at h2
    cases z with
    | bl k =>
      refine ⟨m2, dx, dy, .bl k, fun p hp => s2.st.fresh hp, r1.grow g2, r2, e, fun v H' bs r => ?_⟩
      cases r
      refine ⟨k, rfl, ?_⟩
      have g3 : Grow m2 H2 m2 H' := by
        rcases bs with rfl | ⟨p, o, hp, rfl⟩
        · exact Grow.refl _ _
        · exact Grow.fresh hp
      have s3 : Sim X.K T m2 ρ S2 σ H' := by
        rcases bs with rfl | ⟨p, o, hp, rfl⟩
        · exact s2
        · exact s2.beside hp
      cases k with
      | false => exact h2 m2 _ _ g3 s3 (.bl _)
      | true =>
        refine ⟨m2, ρ, S2, s3, (OkR.grow g3 h2).bnd fun m4 z H4 dz S4 g4 s4 r4 h4 => ?_⟩
        cases e2 : binop o2 dy dz with
        | none => simp only [e2] at h4; exact h4.elim
        | some w =>
          simp only [e2] at h4
          refine ⟨m4, dy, dz, w, fun p hp => s4.st.fresh hp, (r2.grow g3).grow g4, r4, e2, fun v H' bs r => ?_⟩
          rcases bs with rfl | ⟨p, o, hp, rfl⟩
          · exact h4 m4 v _ (Grow.refl _ _) s4 r
          · exact h4 m4 v _ (Grow.fresh hp) (s4.beside hp) r
    | _ => exact h2.elim
theorem se_chain {op op' : CmpOp} {o1 o2 : Op} {a b c : Expr} {A B C : E} {pos : Pos} (ho : OpR X (compareOp op) (rBin X.K T o1)) (ho' : OpR X (compareOp op') (rBin X.K T o2)) (ha : PE X a ((tE X.K T P cl W) A)) (hb : PE X b ((tE X.K T P cl W) B)) (hc : PE X c ((tE X.K T P cl W) C))
    (hm : lastMarks [op, op'] [b, c] = false) : PE X (.Compare a [op, op'] [b, c] pos) ((tE X.K T P cl W) (.chain o1 o2 A B C)) := PE.imp (pe_chain ho ho' ha hb hc hm) fun _ _ _ h => chain_rd h
theorem st_chain {op op' : CmpOp} {o1 o2 : Op} {a b c : Expr} {A B C : E} {pos : Pos} (ho : OpR X (compareOp op) (rBin X.K T o1)) (ho' : OpR X (compareOp op') (rBin X.K T o2)) (ha : PE X a ((tE X.K T P cl W) A)) (hb : PE X b ((tE X.K T P cl W) B)) (hc : PE X c ((tE X.K T P cl W) C))
    (hm : lastMarks [op, op'] [b, c] = false) : PT X (.Compare a [op, op'] [b, c] pos) ((tB X.K T P cl W) (.chain o1 o2 A B C)) := PT.imp (pt_chain ho ho' ha hb hc hm) fun _ _ _ h => chain_rd h
theorem rep_non {m : List Addr} {H : Hp} {v : V} {d : D} (r : Rep X.K T m H v d) : decide (v = .non) = d.isNon := by
  cases r <;> simp [D.isNon]
theorem isN_rd {ng : Bool} {a : E} {σ : L2.St} {H : Hp} {Q : VK} (h : (tE X.K T P cl W) (.isN ng a) σ H Q) : (tE X.K T P cl W) a σ H fun x H1 => Q (.bl (if ng then !decide (x = .non) else decide (x = .non))) H1 := by
  obtain ⟨m, ρ, S, s, h⟩ := h
  rw [ev] at h
  refine ⟨m, ρ, S, s, h.bnd fun m1 x H1 dx S1 g1 s1 r1 h1 => ?_⟩
  rw [rep_non r1]
  exact h1.pure s1 (.bl _)
theorem se_isN {a : Expr} {A : E} {pos p2 : Pos} {j : Nat} (ha : PE X a ((tE X.K T P cl W) A)) (h1 : behindInMarks .Is (.Constant .none j p2) = false) : PE X (.Compare a [.Is] [.Constant .none j p2] pos) ((tE X.K T P cl W) (.isN false A)) :=
  PE.imp (pe_cmp (pc_isN ha) h1) fun _ _ _ h => isN_rd h
theorem st_isN {a : Expr} {A : E} {pos p2 : Pos} {j : Nat} (ha : PE X a ((tE X.K T P cl W) A)) (h1 : behindInMarks .Is (.Constant .none j p2) = false) : PT X (.Compare a [.Is] [.Constant .none j p2] pos) ((tB X.K T P cl W) (.isN false A)) :=
  PT.imp (pt_cmp (pc_isN ha) h1) fun _ _ _ h => isN_rd h
theorem se_notN {a : Expr} {A : E} {pos p2 : Pos} {j : Nat} (ha : PE X a ((tE X.K T P cl W) A)) (h1 : behindInMarks .IsNot (.Constant .none j p2) = false) : PE X (.Compare a [.IsNot] [.Constant .none j p2] pos) ((tE X.K T P cl W) (.isN true A)) :=
  PE.imp (pe_cmp (pc_notN ha) h1) fun _ _ _ h => isN_rd h
theorem st_notN {a : Expr} {A : E} {pos p2 : Pos} {j : Nat} (ha : PE X a ((tE X.K T P cl W) A)) (h1 : behindInMarks .IsNot (.Constant .none j p2) = false) : PT X (.Compare a [.IsNot] [.Constant .none j p2] pos) ((tB X.K T P cl W) (.isN true A)) :=
  PT.imp (pt_cmp (pc_notN ha) h1) fun _ _ _ h => isN_rd h

/-! ### not, and, or, if -/
theorem not_rd {a : E} {σ : L2.St} {H : Hp} {Q : VK} (h : (tE X.K T P cl W) (.not a) σ H Q) : (tE X.K T P cl W) a σ H fun x H1 => ∃ c, x = .bl c ∧ Q (.bl (!c)) H1 := by
  obtain ⟨m, ρ, S, s, h⟩ := h
  rw [ev] at h
  refine ⟨m, ρ, S, s, h.bnd fun m1 x H1 dx S1 g1 s1 r1 h1 => ?_⟩
  cases dx with
  | bl c => cases r1; exact ⟨c, rfl, h1.pure s1 (.bl _)⟩
  | _ => exact h1.elim
theorem and_rd {a b : E} {σ : L2.St} {H : Hp} {Q : VK} (h : (tE X.K T P cl W) (.and a b) σ H Q) : (tE X.K T P cl W) a σ H fun x H1 => ∃ c, x = .bl c ∧ if c = true then (tE X.K T P cl W) b σ H1 Q else Q (.bl false) H1 := by
  obtain ⟨m, ρ, S, s, h⟩ := h
  rw [ev] at h
  refine ⟨m, ρ, S, s, h.bnd fun m1 x H1 dx S1 g1 s1 r1 h1 => ?_⟩
  cases dx with
  | bl c =>
    cases r1
    refine ⟨c, rfl, ?_⟩
    cases c with
    | true => exact ⟨m1, ρ, S1, s1, h1⟩
    | false => exact h1.pure s1 (.bl _)
  | _ => exact h1.elim
theorem or_rd {a b : E} {σ : L2.St} {H : Hp} {Q : VK} (h : (tE X.K T P cl W) (.or a b) σ H Q) : (tE X.K T P cl W) a σ H fun x H1 => ∃ c, x = .bl c ∧ if c = true then Q (.bl true) H1 else (tE X.K T P cl W) b σ H1 Q := by
  obtain ⟨m, ρ, S, s, h⟩ := h
  rw [ev] at h
  refine ⟨m, ρ, S, s, h.bnd fun m1 x H1 dx S1 g1 s1 r1 h1 => ?_⟩
  cases dx with
  | bl c =>
    cases r1
    refine ⟨c, rfl, ?_⟩
    cases c with
    | false => exact ⟨m1, ρ, S1, s1, h1⟩
    | true => exact h1.pure s1 (.bl _)
  | _ => exact h1.elim
theorem ite_rd {c a b : E} {σ : L2.St} {H : Hp} {Q : VK} (h : (tE X.K T P cl W) (.ite c a b) σ H Q) : tIf ((tB X.K T P cl W) c) ((tE X.K T P cl W) a) ((tE X.K T P cl W) b) σ H Q := by
  obtain ⟨m, ρ, S, s, h⟩ := h
  rw [ev] at h
  refine ⟨m, ρ, S, s, h.bnd fun m1 x H1 dx S1 g1 s1 r1 h1 => ?_⟩
  cases dx with
  | bl c =>
    cases r1
    refine ⟨c, rfl, ?_⟩
    cases c with
    | true => exact ⟨m1, ρ, S1, s1, h1⟩
    | false => exact ⟨m1, ρ, S1, s1, h1⟩
  | _ => exact h1.elim
theorem se_not {a : Expr} {A : E} {pos : Pos} (ha : PE X a ((tE X.K T P cl W) A)) : PE X (.UnaryOp .Not a pos) ((tE X.K T P cl W) (.not A)) := PE.imp (pe_not ha) fun _ _ _ h => not_rd h
theorem st_not {a : Expr} {A : E} {pos : Pos} (ha : PT X a ((tB X.K T P cl W) A)) : PT X (.UnaryOp .Not a pos) ((tB X.K T P cl W) (.not A)) := PT.imp (pt_not ha) fun σ H Q h => by
  obtain ⟨m, ρ, S, s, h⟩ := not_rd h
  refine ⟨m, ρ, S, s, h.mono ?_⟩
  rintro x H1 ⟨c, rfl, k, e, q⟩
  cases e
  exact ⟨c, rfl, q⟩
theorem se_and {a b : Expr} {rest : List Expr} {A B : E} {pos : Pos} (ha : PE X a ((tE X.K T P cl W) A)) (hb : PE X (.BoolOp .And (b :: rest) pos) ((tE X.K T P cl W) B)) : PE X (.BoolOp .And (a :: b :: rest) pos) ((tE X.K T P cl W) (.and A B)) := PE.imp (pe_and ha hb) fun _ _ _ h => and_rd h
theorem se_or {a b : Expr} {rest : List Expr} {A B : E} {pos : Pos} (ha : PE X a ((tE X.K T P cl W) A)) (hb : PE X (.BoolOp .Or (b :: rest) pos) ((tE X.K T P cl W) B)) : PE X (.BoolOp .Or (a :: b :: rest) pos) ((tE X.K T P cl W) (.or A B)) := PE.imp (pe_or ha hb) fun _ _ _ h => or_rd h
theorem tB_and {a b : E} {σ : L2.St} {H : Hp} {Q : Bool → Hp → Prop} (h : (tB X.K T P cl W) (.and a b) σ H Q) : tAnd ((tB X.K T P cl W) a) ((tB X.K T P cl W) b) σ H Q := by
  obtain ⟨m, ρ, S, s, h⟩ := and_rd h
  refine ⟨m, ρ, S, s, h.mono ?_⟩
  rintro x H1 ⟨c, rfl, q⟩
  refine ⟨c, rfl, ?_⟩
  cases c with
  | true => exact q
  | false => obtain ⟨k, e, q⟩ := q; cases e; exact q
theorem tB_or {a b : E} {σ : L2.St} {H : Hp} {Q : Bool → Hp → Prop} (h : (tB X.K T P cl W) (.or a b) σ H Q) : tOr ((tB X.K T P cl W) a) ((tB X.K T P cl W) b) σ H Q := by
  obtain ⟨m, ρ, S, s, h⟩ := or_rd h
  refine ⟨m, ρ, S, s, h.mono ?_⟩
  rintro x H1 ⟨c, rfl, q⟩
  refine ⟨c, rfl, ?_⟩
  cases c with
  | false => exact q
  | true => obtain ⟨k, e, q⟩ := q; cases e; exact q
theorem PW.imp {e : Expr} {t t' : TT} (h : PW X e t) (i : ∀ σ H Q, t' σ H Q → t σ H Q) : PW X e t' := ⟨fun wh pins s σ H Q I q => h.run wh pins s σ H Q I (i σ H Q q)⟩
theorem sw_and {a b : Expr} {rest : List Expr} {A B : E} {pos : Pos} (ha : PT X a ((tB X.K T P cl W) A)) (hb : PW X (.BoolOp .And (b :: rest) pos) ((tB X.K T P cl W) B)) : PW X (.BoolOp .And (a :: b :: rest) pos) ((tB X.K T P cl W) (.and A B)) := PW.imp (pw_and ha hb) fun _ _ _ h => tB_and h
theorem sw_or {a b : Expr} {rest : List Expr} {A B : E} {pos : Pos} (ha : PT X a ((tB X.K T P cl W) A)) (hb : PW X (.BoolOp .Or (b :: rest) pos) ((tB X.K T P cl W) B)) : PW X (.BoolOp .Or (a :: b :: rest) pos) ((tB X.K T P cl W) (.or A B)) := PW.imp (pw_or ha hb) fun _ _ _ h => tB_or h
theorem se_ite {c a b : Expr} {C A B : E} {pos : Pos} (hc : PT X c ((tB X.K T P cl W) C)) (ha : PE X a ((tE X.K T P cl W) A)) (hb : PE X b ((tE X.K T P cl W) B)) : PE X (.IfExp c a b pos) ((tE X.K T P cl W) (.ite C A B)) := PE.imp (pe_ifExp hc ha hb) fun _ _ _ h => ite_rd h
/-- a test by its value -/
theorem st_val {e : Expr} {A : E} (h : PE X e ((tE X.K T P cl W) A)) (he : ∀ whole, isTrue e X.env whole = (do let v ← whole; standAt e.pos; holding [v] (truthy v))) : PT X e ((tB X.K T P cl W) A) := pt_val h he

/-! ### in -/
theorem flat_rep {m : List Addr} {H : Hp} {v : V} {d : D} (r : Rep X.K T m H v d) (f : flat d = true) : flatV v = true := by
  cases r <;> first | rfl | cases f
theorem eqV_rep {m : List Addr} {H : Hp} {v w : V} {d e : D} (r : Rep X.K T m H v d) (f : flat d = true) (r' : Rep X.K T m H w e) (f' : flat e = true) : eqV v w = d.eqv e := by
  cases r <;> (try cases f) <;> cases r' <;> first | rfl | (simp only [eqV, D.eqv]; done) | cases f'
theorem flats_rep {m : List Addr} {H : Hp} : ∀ {vs : List V} {ds : List D}, Reps X.K T m H vs ds → ds.all flat = true → vs.all flatV = true
  | _, _, .nil, _ => rfl
  | _, _, .cons h r, f => by
    rw [List.all_cons, Bool.and_eq_true] at f ⊢
    exact ⟨flat_rep h f.1, flats_rep r f.2⟩
theorem any_rep {m : List Addr} {H : Hp} {w : V} {e : D} (r' : Rep X.K T m H w e) (f' : flat e = true) : ∀ {vs : List V} {ds : List D}, Reps X.K T m H vs ds → ds.all flat = true → (vs.any fun y => eqV y w) = ds.any fun y => y.eqv e
  | _, _, .nil, _ => rfl
  | _, _, .cons h r, f => by
    rw [List.all_cons, Bool.and_eq_true] at f
    rw [List.any_cons, List.any_cons, eqV_rep h f.1 r' f', any_rep r' f' r f.2]
theorem in_rd {ng : Bool} {a b : E} {σ : L2.St} {H : Hp} {Q : VK} (h : (tE X.K T P cl W) (.inn ng a b) σ H Q) : tOp (rIn X.K ng) ((tE X.K T P cl W) a) ((tE X.K T P cl W) b) σ H Q := by
  obtain ⟨m, ρ, S, s, h⟩ := h
  rw [ev] at h
  refine ⟨m, ρ, S, s, h.bnd fun m1 x H1 dx S1 g1 s1 r1 h1 => ?_⟩
  refine ⟨m1, ρ, S1, s1, h1.bnd fun m2 y H2 dy S2 g2 s2 r2 h2 => ?_⟩
  unfold inop at h2
  cases e : items S2 dy with
  | none => rw [e] at h2; exact h2.elim
  | some xs =>
    rw [e] at h2
    simp only [Option.bind_some] at h2
    split at h2
    · rename_i f
      rw [Bool.and_eq_true] at f
      obtain ⟨p, ys, rfl, hq, rr⟩ := items_rep s2.st r2 e
      refine ⟨p, ys, rfl, hq, flat_rep r1 f.1, flats_rep rr f.2, ?_⟩
      have e2 : inV x ys = xs.any fun y => y.eqv dx := any_rep (r1.grow g2) f.1 rr f.2
      rw [e2]
      exact h2.pure s2 (.bl _)
    · exact h2.elim
theorem se_in {a b : Expr} {A B : E} {pos : Pos} (ha : PE X a ((tE X.K T P cl W) A)) (hb : PE X b ((tE X.K T P cl W) B)) (hm : behindInMarks .In b = false) : PE X (.Compare a [.In] [b] pos) ((tE X.K T P cl W) (.inn false A B)) := PE.imp (pe_cmpR op_in_seq ha hb hm) fun _ _ _ h => in_rd h
theorem st_in {a b : Expr} {A B : E} {pos : Pos} (ha : PE X a ((tE X.K T P cl W) A)) (hb : PE X b ((tE X.K T P cl W) B)) (hm : behindInMarks .In b = false) : PT X (.Compare a [.In] [b] pos) ((tB X.K T P cl W) (.inn false A B)) := PT.imp (pt_cmpR op_in_seq ha hb hm) fun _ _ _ h => in_rd h
theorem se_notin {a b : Expr} {A B : E} {pos : Pos} (ha : PE X a ((tE X.K T P cl W) A)) (hb : PE X b ((tE X.K T P cl W) B)) (hm : behindInMarks .NotIn b = false) : PE X (.Compare a [.NotIn] [b] pos) ((tE X.K T P cl W) (.inn true A B)) := PE.imp (pe_cmpR op_notIn_seq ha hb hm) fun _ _ _ h => in_rd h
theorem st_notin {a b : Expr} {A B : E} {pos : Pos} (ha : PE X a ((tE X.K T P cl W) A)) (hb : PE X b ((tE X.K T P cl W) B)) (hm : behindInMarks .NotIn b = false) : PT X (.Compare a [.NotIn] [b] pos) ((tB X.K T P cl W) (.inn true A B)) := PT.imp (pt_cmpR op_notIn_seq ha hb hm) fun _ _ _ h => in_rd h

/-! ### argument lists, tuples, lists -/
theorem sa_nil : PA X [] ((tEs X.K T P cl W) .nil) := by
  refine PA.imp pa_nil ?_
  rintro σ H Q ⟨m, ρ, S, s, h⟩
  rw [evs] at h
  exact h.pure s .nil
theorem sa_cons {e : Expr} {es : List Expr} {A : E} {B : Es} (ha : PE X e ((tE X.K T P cl W) A)) (hr : PA X es ((tEs X.K T P cl W) B)) (hs : starEach (e :: es) X.env = (false, eval e X.env) :: starEach es X.env) : PA X (e :: es) ((tEs X.K T P cl W) (.cons A B)) := by
  refine PA.imp (pa_cons ha hr hs) ?_
  rintro σ H Q ⟨m, ρ, S, s, h⟩
  rw [evs] at h
  refine ⟨m, ρ, S, s, h.bnd fun m1 x H1 dx S1 g1 s1 r1 h1 => ?_⟩
  refine ⟨m1, ρ, S1, s1, h1.bnd fun m2 y H2 dy S2 g2 s2 r2 h2 => ?_⟩
  exact h2.pure s2 (.cons (r1.grow g2) r2)
/-- how many -/
def Es.len : Es → Nat
  | .nil => 0
  | .cons _ r => r.len + 1
theorem evs_len {ρ : Env} : ∀ (es : Es) (S : Store) (xs : List D) (S' : Store), evs P cl es ρ S = some (.ok xs S') → xs.length = es.len
  | .nil, S, xs, S', h => by rw [evs] at h; cases h; rfl
  | .cons e r, S, xs, S', h => by
    rw [evs] at h
    obtain ⟨x, S1, h1, h⟩ := bnd_ok h
    obtain ⟨ys, S2, h2, h⟩ := bnd_ok h
    cases h
    rw [List.length_cons, evs_len r _ _ _ h2]; rfl
/-- what is known of the result beside -/
theorem OkR.know {α β : Type} {K : PySem.W.Frag} {T : Txt} {Rl : List Addr → Hp → β → α → Prop} {W : WX} {σ : L2.St} {m : List Addr} {ρ : Env} {H : Hp} {r : R α} {Q : β → Hp → Prop} {p : α → Prop}
    (h : OkR K T (fun m H v d => Rl m H v d ∧ p d) W σ m ρ H r Q) (hp : ∀ d S, r = some (.ok d S) → p d) : OkR K T Rl W σ m ρ H r Q := by
  cases r with
  | none => exact h
  | some r => cases r with
    | ok d S => exact fun m' v H' g s r => h m' v H' g s ⟨r, hp d S rfl⟩
    | ex x S => exact h
theorem se_tup {es : List Expr} {A : Es} {k : Nat} {pos : Pos} (h : PA X es ((tEs X.K T P cl W) A)) (hz : A.len ≤ 1000) : PE X (.Tuple es k pos) ((tE X.K T P cl W) (.tup A)) := by
  refine PE.imp (pe_tup h) ?_
  rintro σ H Q ⟨m, ρ, S, s, h⟩
  rw [ev] at h
  refine ⟨m, ρ, S, s, OkR.know (p := fun d => d.length = A.len) (h.bnd fun m1 vs H1 ds S1 g1 s1 ⟨r1, l1⟩ h1 => ?_) fun d S' e => evs_len A _ _ _ e⟩
  have l2 := r1.length
  refine ⟨small2 (by omega), fun p hp => h1 m1 _ _ (Grow.fresh hp) (s1.beside hp) (rep_tup s1.st hp r1)⟩
theorem sl_disp {es : List Expr} {A : Es} {pos : Pos} (h : PA X es ((tEs X.K T P cl W) A)) (hz : A.len ≤ 1000) : PE X (.List es pos) ((tL X.K T P cl W) (.disp A)) := by
  refine PE.imp (pe_lst h) ?_
  rintro σ H Q ⟨m, ρ, S, s, h⟩
  rw [evL] at h
  refine ⟨m, ρ, S, s, OkR.know (p := fun d => d.length = A.len) ?_ fun d S' e => evs_len A _ _ _ e⟩
  cases e : evs P cl A ρ S with
  | none => rw [e] at h; exact h
  | some r => cases r with
    | ok d S1 =>
      rw [e] at h
      intro m1 vs H1 g1 s1 ⟨r1, l1⟩
      have l2 := r1.length
      exact ⟨small2 (by omega), fun p hp => h m1 vs H1 g1 s1 r1 p hp⟩
    | ex x S1 => rw [e] at h; exact h
theorem se_frz {e : Expr} {l : L} (h : PE X e ((tL X.K T P cl W) l)) : PE X e ((tE X.K T P cl W) (.frz l)) := by
  refine PE.imp h ?_
  rintro σ H Q ⟨m, ρ, S, s, h⟩
  rw [ev] at h
  refine ⟨m, ρ, S, s, h.bnd fun m1 vs H1 ds S1 g1 s1 r1 h1 p hp => ?_⟩
  exact h1 m1 _ _ (Grow.fresh hp) (s1.beside hp) (rep_lst s1.st hp r1)
theorem se_own {e : Expr} {l : L} (h : PE X e ((tL X.K T P cl W) l)) : PE X e ((tE X.K T P cl W) (.own l)) := by
  refine PE.imp h ?_
  rintro σ H Q ⟨m, ρ, S, s, h⟩
  rw [ev] at h
  refine ⟨m, ρ, S, s, h.bnd fun m1 vs H1 ds S1 g1 s1 r1 h1 p hp => ?_⟩
  exact h1 (m1 ++ [p]) _ _ (Grow.own hp) (s1.more hp r1) (.ref (by rw [← s1.st.len]; simp))

/-! ### items -/
theorem at_rep {m : List Addr} {H : Hp} {vs : List V} {ds : List D} {i : Int} {d : D} (r : Reps X.K T m H vs ds) (h : at_ ds i = some d) : ∃ v, atI vs i = some v ∧ Rep X.K T m H v d := by
  unfold at_ at h
  unfold atI
  rw [r.length]
  have e : L2.ixN ds.length i = RG.ixN ds.length i := rfl
  rw [e]
  cases q : RG.ixN ds.length i with
  | none => rw [q] at h; cases h
  | some j =>
    rw [q] at h
    exact r.get (show ds[j]? = some d from h)
theorem idx_rd {a b : E} {σ : L2.St} {H : Hp} {Q : VK} (h : (tE X.K T P cl W) (.idx a b) σ H Q) : tOp (fun x y H Q => rIxL X.K x y H Q ∨ rIxT X.K x y H Q) ((tE X.K T P cl W) a) ((tE X.K T P cl W) b) σ H Q := by
  obtain ⟨m, ρ, S, s, h⟩ := h
  rw [ev] at h
  refine ⟨m, ρ, S, s, h.bnd fun m1 x H1 dx S1 g1 s1 r1 h1 => ?_⟩
  refine ⟨m1, ρ, S1, s1, h1.bnd fun m2 y H2 dy S2 g2 s2 r2 h2 => ?_⟩
  cases dy with
  | int i =>
    cases r2
    simp only at h2
    cases e : items S2 dx with
    | none => rw [e] at h2; exact h2.elim
    | some xs =>
      rw [e] at h2
      simp only [Option.bind_some] at h2
      cases e2 : at_ xs i with
      | none => rw [e2] at h2; exact h2.elim
      | some d =>
        rw [e2] at h2
        obtain ⟨p, ys, rfl, hq, rr⟩ := items_rep s2.st (r1.grow g2) e
        obtain ⟨v, hv, rv⟩ := at_rep rr e2
        rcases hq with hq | hq
        · exact .inl ⟨p, ys, i, v, rfl, rfl, hq, hv, OkR.pure h2 s2 rv⟩
        · exact .inr ⟨p, ys, i, v, rfl, rfl, hq, hv, OkR.pure h2 s2 rv⟩
  | _ => exact h2.elim
theorem se_idx {a b : Expr} {A B : E} {pos : Pos} (ha : PE X a ((tE X.K T P cl W) A)) (hb : PE X b ((tE X.K T P cl W) B)) (hs : PlainIx b) : PE X (.Subscript a b pos) ((tE X.K T P cl W) (.idx A B)) := PE.imp (pe_ix (IxR.or ix_list ix_tup) ha hb hs) fun _ _ _ h => idx_rd h
end
end RG
set_option Elab.async false
set_option linter.all false
set_option maxRecDepth 100000
/-! Built-ins, calls, methods, new instances. -/
namespace RG
open PySem PySem.Spec PyProof.Rows L2

section
variable {X : Cx} {T : Txt} {P : Prog} {cl : Nat → List D → Store → R D} {W : WX}

/-! ### built-ins -/
/-- what a built-in does to values -/
def rBi (K : PySem.W.Frag) (T : Txt) (b : BI) : List V → Hp → VK → Prop := fun vs H Q => ∃ (m : List Addr) (S : Store) (ds : List D) (d : D), StOk K T m S H ∧ Reps K T m H vs ds ∧ biop S b ds = some d ∧ ∀ z H', Beside H H' → Rep K T m H' z d → Q z H'
theorem CallR.imp {f : Value} {r r' : List V → Hp → VK → Prop} (h : CallR X f r) (i : ∀ vs H Q, r' vs H Q → r vs H Q) : CallR X f r' := fun pins s σ H vs us Q I rv q => h pins s σ H vs us Q I rv (i _ _ _ q)
theorem bi_rd {b : BI} {A : Es} {σ : L2.St} {H : Hp} {Q : VK} (h : (tE X.K T P cl W) (.bi b A) σ H Q) : tCB (rBi X.K T b) ((tEs X.K T P cl W) A) σ H Q := by
  obtain ⟨m, ρ, S, s, h⟩ := h
  rw [ev] at h
  refine ⟨m, ρ, S, s, h.bnd fun m1 vs H1 ds S1 g1 s1 r1 h1 => ?_⟩
  cases e : biop S1 b ds with
  | none => rw [e] at h1; exact h1.elim
  | some d =>
    rw [e] at h1
    refine ⟨m1, S1, ds, d, s1.st, r1, e, fun z H' bs r => ?_⟩
    rcases bs with rfl | ⟨p, o, hp, rfl⟩
    · exact h1 m1 z _ (Grow.refl _ _) s1 r
    · exact h1 m1 z _ (Grow.fresh hp) (s1.beside hp) r
theorem se_bi {b : BI} {x : Str} {id : String} {p pos : Pos} {e : Expr} {es : List Expr} {A : Es} (hc : CallR X (.builtin id) (rBi X.K T b)) (hg : Gl X x) (hm : X.mg x = none) (hv : bootBuiltins x = some (.builtin id)) (ha : PA X (e :: es) ((tEs X.K T P cl W) A))
    (hn : x ≠ "__name__") (hdb : (x == ("__debug__" : Str)) = false) (he : starEach (e :: es) X.env = (false, eval e X.env) :: starEach es X.env) (hpl : (backTo pos (starEach es X.env)).any (·.1) = false) :
    PE X (.Call (.Name x p) (e :: es) [] pos) ((tE X.K T P cl W) (.bi b A)) := PE.imp (pe_callB hc hg hm hv ha hn hdb he hpl) fun _ _ _ h => bi_rd h
theorem se_biT {b : BI} {x : Str} {N : String} {p pos : Pos} {e : Expr} {es : List Expr} {A : Es} (hc : CallR X (.type N) (rBi X.K T b)) (hg : Gl X x) (hm : X.mg x = none) (hv : bootBuiltins x = some (.type N)) (ha : PA X (e :: es) ((tEs X.K T P cl W) A))
    (hn : x ≠ "__name__") (hdb : (x == ("__debug__" : Str)) = false) (he : starEach (e :: es) X.env = (false, eval e X.env) :: starEach es X.env) (hpl : (backTo pos (starEach es X.env)).any (·.1) = false) :
    PE X (.Call (.Name x p) (e :: es) [] pos) ((tE X.K T P cl W) (.bi b A)) := PE.imp (pe_callTy hc hg hm hv ha hn hdb he hpl) fun _ _ _ h => bi_rd h
/-- a name that the module took from math -/
theorem se_biM {b : BI} {x : Str} {id : String} {p pos : Pos} {e : Expr} {es : List Expr} {A : Es} (hc : CallR X (.builtin id) (rBi X.K T b)) (hg : Gl X x) (hm : X.mg x = some (.builtin id)) (ha : PA X (e :: es) ((tEs X.K T P cl W) A))
    (hdb : (x == ("__debug__" : Str)) = false) (he : starEach (e :: es) X.env = (false, eval e X.env) :: starEach es X.env) (hpl : (backTo pos (starEach es X.env)).any (·.1) = false) :
    PE X (.Call (.Name x p) (e :: es) [] pos) ((tE X.K T P cl W) (.bi b A)) := PE.imp (pe_callBfun hc hg hm ha hdb he hpl) fun _ _ _ h => bi_rd h
theorem reps1 {K : PySem.W.Frag} {T : Txt} {m : List Addr} {H : Hp} {vs : List V} {d : D} (r : Reps K T m H vs [d]) : ∃ v, vs = [v] ∧ Rep K T m H v d := by
  cases r with
  | cons h r => cases r; exact ⟨_, rfl, h⟩
theorem reps2 {K : PySem.W.Frag} {T : Txt} {m : List Addr} {H : Hp} {vs : List V} {d e : D} (r : Reps K T m H vs [d, e]) : ∃ v w, vs = [v, w] ∧ Rep K T m H v d ∧ Rep K T m H w e := by
  cases r with
  | cons h r => cases r with
    | cons h2 r => cases r; exact ⟨_, _, rfl, h, h2⟩
theorem biop_one {S : Store} {b : BI} {ds : List D} {d : D} (h : biop S b ds = some d) (hb : b ≠ .max ∧ b ≠ .min ∧ b ≠ .gcd ∧ b ≠ .lcm) : ∃ x, ds = [x] := by
  unfold biop at h
  split at h <;> first | exact ⟨_, rfl⟩ | simp_all
theorem bi_len : CallR X (.builtin "len") (rBi X.K T .len) := by
  refine CallR.imp call_len_seq ?_
  rintro vs H Q ⟨m, S, ds, d, s, r, e, q⟩
  obtain ⟨x, rfl⟩ := biop_one e (by simp)
  obtain ⟨v, rfl, r1⟩ := reps1 r
  simp only [biop] at e
  cases e2 : items S x with
  | none => rw [e2] at e; cases e
  | some xs =>
    rw [e2] at e
    cases e
    obtain ⟨a, ys, rfl, hq, rr⟩ := items_rep s r1 e2
    exact ⟨a, ys, rfl, hq, q _ _ (.inl rfl) (by rw [rr.length]; exact .int _)⟩
theorem bi_abs : CallR X (.builtin "abs") (rBi X.K T .abs) := by
  refine CallR.imp call_abs ?_
  rintro vs H Q ⟨m, S, ds, d, s, r, e, q⟩
  obtain ⟨x, rfl⟩ := biop_one e (by simp)
  obtain ⟨v, rfl, r1⟩ := reps1 r
  cases x <;> simp only [biop] at e <;> try cases e
  rename_i i
  cases r1
  refine ⟨i, rfl, ?_⟩
  have e : (if i < 0 then -i else i) = (i.natAbs : Int) := by split <;> omega
  rw [e]
  exact q _ _ (.inl rfl) (.int _)
theorem bi_int : CallR X (.type "int") (rBi X.K T .int) := by
  refine CallR.imp call_int1 ?_
  rintro vs H Q ⟨m, S, ds, d, s, r, e, q⟩
  obtain ⟨x, rfl⟩ := biop_one e (by simp)
  obtain ⟨v, rfl, r1⟩ := reps1 r
  cases x <;> simp only [biop] at e <;> try cases e
  cases r1
  exact .inl ⟨_, rfl, q _ _ (.inl rfl) (.int _)⟩
theorem two_ints {S : Store} {b : BI} {ds : List D} {d : D} (h : biop S b ds = some d) (hb : b = .max ∨ b = .min ∨ b = .gcd ∨ b = .lcm) : ∃ i j, ds = [.int i, .int j] := by
  unfold biop at h
  split at h <;> first | exact ⟨_, _, rfl⟩ | simp_all
theorem bi_max (hc : X.calm = true) : CallR X (.builtin "max") (rBi X.K T .max) := by
  refine CallR.imp (call_max2 hc) ?_
  rintro vs H Q ⟨m, S, ds, d, s, r, e, q⟩
  obtain ⟨i, j, rfl⟩ := two_ints e (by simp)
  obtain ⟨v, w, rfl, r1, r2⟩ := reps2 r
  cases r1; cases r2
  simp only [biop] at e
  cases e
  refine ⟨i, j, rfl, ?_⟩
  have e : (if j > i then j else i) = max i j := by split <;> omega
  rw [e]
  exact q _ _ (.inl rfl) (.int _)
theorem bi_min (hc : X.calm = true) : CallR X (.builtin "min") (rBi X.K T .min) := by
  refine CallR.imp (call_min2 hc) ?_
  rintro vs H Q ⟨m, S, ds, d, s, r, e, q⟩
  obtain ⟨i, j, rfl⟩ := two_ints e (by simp)
  obtain ⟨v, w, rfl, r1, r2⟩ := reps2 r
  cases r1; cases r2
  simp only [biop] at e
  cases e
  refine ⟨i, j, rfl, ?_⟩
  have e : (if j < i then j else i) = min i j := by split <;> omega
  rw [e]
  exact q _ _ (.inl rfl) (.int _)
theorem bi_gcd : CallR X (.builtin "math.gcd") (rBi X.K T .gcd) := by
  refine CallR.imp cr_gcd ?_
  rintro vs H Q ⟨m, S, ds, d, s, r, e, q⟩
  obtain ⟨i, j, rfl⟩ := two_ints e (by simp)
  obtain ⟨v, w, rfl, r1, r2⟩ := reps2 r
  cases r1; cases r2
  simp only [biop] at e
  cases e
  exact ⟨i, j, rfl, q _ _ (.inl rfl) (.int _)⟩
theorem bi_tuple : CallR X (.type "tuple") (rBi X.K T .tuple) := by
  refine CallR.imp call_tuple_of ?_
  rintro vs H Q ⟨m, S, ds, d, s, r, e, q⟩
  obtain ⟨x, rfl⟩ := biop_one e (by simp)
  obtain ⟨v, rfl, r1⟩ := reps1 r
  simp only [biop] at e
  cases x with
  | tup xs =>
    simp only [items, Option.map_some] at e
    cases e
    obtain ⟨a, ys, rfl, hq, rr⟩ := r1.tupD
    exact ⟨a, ys, rfl, .inr ⟨hq, q _ _ (.inl rfl) r1⟩⟩
  | lst xs =>
    simp only [items, Option.map_some] at e
    cases e
    obtain ⟨a, ys, rfl, hq, rr⟩ := r1.lstD
    exact ⟨a, ys, rfl, .inl ⟨SqL.of hq, fun p hp => q _ _ (.inr ⟨p, _, hp, rfl⟩) (rep_tup s hp rr)⟩⟩
  | ref i =>
    cases e2 : litems S (.ref i) with
    | none => rw [show items S (.ref i) = none from e2] at e; cases e
    | some xs =>
      rw [show items S (.ref i) = some xs from e2] at e
      cases e
      obtain ⟨a, ys, rfl, hq, rr⟩ := litems_rep s r1 e2
      exact ⟨a, ys, rfl, .inl ⟨SqL.of hq, fun p hp => q _ _ (.inr ⟨p, _, hp, rfl⟩) (rep_tup s hp rr)⟩⟩
  | _ => simp only [items] at e; cases e
theorem bools_rep {m : List Addr} {H : Hp} : ∀ {vs : List V} {ds : List D} {bs : List Bool}, Reps X.K T m H vs ds → bools ds = some bs → vs = bs.map V.bl
  | _, _, _, .nil, h => by simp only [bools] at h; cases h; rfl
  | _, _, _, .cons (d := d) q r, h => by
    cases d <;> simp only [bools] at h <;> try cases h
    rename_i ds b
    cases e : bools ds with
    | none => rw [e] at h; cases h
    | some cs =>
      rw [e] at h
      cases h
      cases q
      rw [bools_rep r e]
      rfl
theorem bi_all (hc : X.calm = true) : CallR X (.builtin "all") (rBi X.K T .all) := by
  refine CallR.imp (cr_all hc) ?_
  rintro vs H Q ⟨m, S, ds, d, s, r, e, q⟩
  obtain ⟨x, rfl⟩ := biop_one e (by simp)
  obtain ⟨v, rfl, r1⟩ := reps1 r
  simp only [biop] at e
  cases e2 : litems S x with
  | none => rw [e2] at e; cases e
  | some xs =>
    rw [e2] at e
    simp only [Option.bind_some] at e
    cases e3 : bools xs with
    | none => rw [e3] at e; cases e
    | some bs =>
      rw [e3] at e
      cases e
      obtain ⟨a, ys, rfl, hq, rr⟩ := litems_rep s r1 e2
      exact ⟨a, bs, rfl, by rw [← bools_rep rr e3]; exact SqL.of hq, q _ _ (.inl rfl) (.bl _)⟩
theorem bi_any (hc : X.calm = true) : CallR X (.builtin "any") (rBi X.K T .any) := by
  refine CallR.imp (cr_any hc) ?_
  rintro vs H Q ⟨m, S, ds, d, s, r, e, q⟩
  obtain ⟨x, rfl⟩ := biop_one e (by simp)
  obtain ⟨v, rfl, r1⟩ := reps1 r
  simp only [biop] at e
  cases e2 : litems S x with
  | none => rw [e2] at e; cases e
  | some xs =>
    rw [e2] at e
    simp only [Option.bind_some] at e
    cases e3 : bools xs with
    | none => rw [e3] at e; cases e
    | some bs =>
      rw [e3] at e
      cases e
      obtain ⟨a, ys, rfl, hq, rr⟩ := litems_rep s r1 e2
      exact ⟨a, bs, rfl, by rw [← bools_rep rr e3]; exact SqL.of hq, q _ _ (.inl rfl) (.bl _)⟩

/-! ### isinstance -/
def tyN : Nat → String
  | 0 => "int"
  | 1 => "bool"
  | 2 => "str"
  | 3 => "tuple"
  | _ => "list"
/-- a value's built-in type, for isinstance -/
theorem ty_rep {m : List Addr} {S : Store} {H : Hp} (s : StOk X.K T m S H) {v : V} {d : D} (r : Rep X.K T m H v d) {ts : List Nat} {b : Bool} (h : isT S ts d = some b) :
    ∃ n : String, TyX X.K H v (.type n) ∧ ((n = "NoneType" ∧ b = false) ∨ (n = "bool" ∧ b = (ts.contains 0 || ts.contains 1)) ∨ (n = "int" ∧ b = ts.contains 0) ∨ (n = "str" ∧ b = ts.contains 2) ∨ (n = "tuple" ∧ b = ts.contains 3) ∨ (n = "list" ∧ b = ts.contains 4)) := by
  cases d with
  | non => cases r; simp only [isT] at h; cases h; exact ⟨_, .base .non, by simp⟩
  | bl k => cases r; simp only [isT] at h; cases h; exact ⟨_, .base (.bl _), by simp⟩
  | int k => cases r; simp only [isT] at h; cases h; exact ⟨_, .base (.int _), by simp⟩
  | str k => cases r; simp only [isT] at h; cases h; exact ⟨_, .base (.str _), by simp⟩
  | tup xs =>
    simp only [isT] at h; cases h
    cases r with
    | tup rd _ _ =>
      rcases rd with rd | ⟨o, rd⟩
      · exact ⟨_, .base (.tup rd), by simp⟩
      · exact ⟨_, .fTuple rd, by simp⟩
    | tupK rd _ =>
      rcases rd (fun _ => none) with (rd | ⟨o, rd⟩) | ⟨o, its, n, e, c, _⟩
      · cases rd
      · cases rd
      · exact ⟨_, .kTuple e c, by simp⟩
  | lst xs =>
    simp only [isT] at h; cases h
    cases r with
    | lst rd _ _ => exact ⟨_, .base (.lst rd), by simp⟩
  | ref i =>
    cases r with
    | ref hm =>
      obtain ⟨c, hc, q, _⟩ := s.at hm
      simp only [isT, hc] at h
      cases c with
      | lst xs =>
        cases h
        obtain ⟨vs, e, _⟩ := q
        exact ⟨_, .base (.lst e), by simp⟩
      | _ => cases h
  | _ => simp only [isT] at h; cases h
theorem kit_one {K : PySem.W.Frag} {n : String} {t : Nat} (ht : t < 5) {b : Bool} (h : (n = "NoneType" ∧ b = false) ∨ (n = "bool" ∧ b = ([t].contains 0 || [t].contains 1)) ∨ (n = "int" ∧ b = [t].contains 0) ∨ (n = "str" ∧ b = [t].contains 2) ∨ (n = "tuple" ∧ b = [t].contains 3) ∨ (n = "list" ∧ b = [t].contains 4)) :
    PySem.W.kitOne K (.type n) (.type (tyN t)) = some b := by
  have e : t = 0 ∨ t = 1 ∨ t = 2 ∨ t = 3 ∨ t = 4 := by omega
  rcases e with rfl | rfl | rfl | rfl | rfl <;> rcases h with ⟨rfl, rfl⟩ | ⟨rfl, rfl⟩ | ⟨rfl, rfl⟩ | ⟨rfl, rfl⟩ | ⟨rfl, rfl⟩ | ⟨rfl, rfl⟩ <;> exact kit_ty (by decide +kernel)
/-- the value with its type's answer -/
def rIs (K : PySem.W.Frag) (T : Txt) (ts : List Nat) (x : V) (H : Hp) (Q : VK) : Prop := ∃ (m : List Addr) (S : Store) (d : D) (b : Bool), StOk K T m S H ∧ Rep K T m H x d ∧ isT S ts d = some b ∧ ∀ H', Beside H H' → Q (.bl b) H'
theorem is_rd {ts : List Nat} {A : E} {σ : L2.St} {H : Hp} {Q : VK} (h : (tE X.K T P cl W) (.bi (.isT ts) (.cons A .nil)) σ H Q) : (tE X.K T P cl W) A σ H fun x H1 => rIs X.K T ts x H1 Q := by
  obtain ⟨m, ρ, S, s, h⟩ := h
  rw [ev] at h
  refine ⟨m, ρ, S, s, ?_⟩
  cases e : ev P cl A ρ S with
  | none => simp only [RG.bnd, evs, e] at h; exact h
  | some r => cases r with
    | ex x S1 => simp only [RG.bnd, evs, e] at h; exact h
    | ok d S1 =>
      intro m1 v H1 g1 s1 r1
      simp only [RG.bnd, evs, e, RG.ret, biop] at h
      cases e2 : isT S1 ts d with
      | none => rw [e2] at h; exact h.elim
      | some b =>
        rw [e2] at h
        refine ⟨m1, S1, d, b, s1.st, r1, e2, fun H' bs => ?_⟩
        rcases bs with rfl | ⟨p, o, hp, rfl⟩
        · exact h m1 _ _ g1 s1 (.bl _)
        · exact h m1 _ _ (g1.trans (Grow.fresh hp)) (s1.beside hp) (.bl _)
theorem se_is1 {t : Nat} {n : Str} {e : Expr} {A : E} {p p2 pos : Pos} (ht : t < 5) (hg : Gl X "isinstance") (hm : X.mg "isinstance" = none) (hgn : Gl X n) (hmn : X.mg n = none) (hvn : bootBuiltins n = some (.type (tyN t))) (hn : n ≠ "__name__") (hdb : (n == ("__debug__" : Str)) = false)
    (ha : PE X e ((tE X.K T P cl W) A)) (hs : starEach [e, .Name n p2] X.env = (false, eval e X.env) :: starEach [.Name n p2] X.env) :
    PE X (.Call (.Name "isinstance" p) [e, .Name n p2] [] pos) ((tE X.K T P cl W) (.bi (.isT [t]) (.cons A .nil))) := by
  refine PE.imp (pe_callB call_isi hg hm boot_isinstance (pa_cons ha (pa_cons (pe_bltn hgn hmn hvn (v := .ty (tyN t)) rfl hn hdb) pa_nil rfl) hs) (by decide) (by decide) hs rfl) fun σ H Q h => ?_
  obtain ⟨m, ρ, S, s, h⟩ := is_rd h
  refine ⟨m, ρ, S, s, h.mono ?_⟩
  rintro x H1 ⟨m1, S1, d, b, s1, r1, e, q⟩
  obtain ⟨nm, ty, cs⟩ := ty_rep s1 r1 e
  exact ⟨x, _, _, _, b, rfl, .ty _, ty, kit_one ht cs, q _ (.inl rfl)⟩
theorem kit_two {K : PySem.W.Frag} {n : String} {b : Bool} (h : (n = "NoneType" ∧ b = false) ∨ (n = "bool" ∧ b = ([3, 4].contains 0 || [3, 4].contains 1)) ∨ (n = "int" ∧ b = [3, 4].contains 0) ∨ (n = "str" ∧ b = [3, 4].contains 2) ∨ (n = "tuple" ∧ b = [3, 4].contains 3) ∨ (n = "list" ∧ b = [3, 4].contains 4)) :
    PySem.W.kitAny K (.type n) [.type "tuple", .type "list"] = some b := by
  rcases h with ⟨rfl, rfl⟩ | ⟨rfl, rfl⟩ | ⟨rfl, rfl⟩ | ⟨rfl, rfl⟩ | ⟨rfl, rfl⟩ | ⟨rfl, rfl⟩
  · exact kitAny_cons (b := false) (kit_ty (by decide +kernel)) (fun _ => kitAny_cons (b := false) (kit_ty (by decide +kernel)) (fun _ => kitAny_nil) (fun z => by cases z)) (fun z => by cases z)
  · exact kitAny_cons (b := false) (kit_ty (by decide +kernel)) (fun _ => kitAny_cons (b := false) (kit_ty (by decide +kernel)) (fun _ => kitAny_nil) (fun z => by cases z)) (fun z => by cases z)
  · exact kitAny_cons (b := false) (kit_ty (by decide +kernel)) (fun _ => kitAny_cons (b := false) (kit_ty (by decide +kernel)) (fun _ => kitAny_nil) (fun z => by cases z)) (fun z => by cases z)
  · exact kitAny_cons (b := false) (kit_ty (by decide +kernel)) (fun _ => kitAny_cons (b := false) (kit_ty (by decide +kernel)) (fun _ => kitAny_nil) (fun z => by cases z)) (fun z => by cases z)
  · exact kitAny_cons (b := true) (kit_ty (by decide +kernel)) (fun z => by cases z) (fun _ => rfl)
  · exact kitAny_cons (b := false) (kit_ty (by decide +kernel)) (fun _ => kitAny_cons (b := true) (kit_ty (by decide +kernel)) (fun z => by cases z) (fun _ => rfl)) (fun z => by cases z)
/-- isinstance(x, (tuple, list)) -/
theorem se_is2 {e : Expr} {A : E} {p p2 p3 pt pos : Pos} {k : Nat} (hg : Gl X "isinstance") (hm : X.mg "isinstance" = none) (hg1 : Gl X "tuple") (hm1 : X.mg "tuple" = none) (hg2 : Gl X "list") (hm2 : X.mg "list" = none)
    (ha : PE X e ((tE X.K T P cl W) A)) (hs : starEach [e, .Tuple [.Name "tuple" p2, .Name "list" p3] k pt] X.env = (false, eval e X.env) :: starEach [.Tuple [.Name "tuple" p2, .Name "list" p3] k pt] X.env) :
    PE X (.Call (.Name "isinstance" p) [e, .Tuple [.Name "tuple" p2, .Name "list" p3] k pt] [] pos) ((tE X.K T P cl W) (.bi (.isT [3, 4]) (.cons A .nil))) := by
  refine PE.imp (pe_callB call_isiT hg hm boot_isinstance (pa_cons ha (pa_cons (pe_tup (pa_cons (pe_bltn hg1 hm1 boot_tuple (v := .ty "tuple") rfl) (pa_cons (pe_bltn hg2 hm2 boot_list (v := .ty "list") rfl) pa_nil rfl) rfl)) pa_nil rfl) hs) (by decide) (by decide) hs rfl) fun σ H Q h => ?_
  obtain ⟨m, ρ, S, s, h⟩ := is_rd h
  refine ⟨m, ρ, S, s, h.mono ?_⟩
  rintro x H1 ⟨m1, S1, d, b, s1, r1, e, q⟩
  refine ⟨small2 (by decide), fun p hp => ?_⟩
  obtain ⟨nm, ty, cs⟩ := ty_rep (s1.beside (o := .tup [.ty "tuple", .ty "list"]) hp) (r1.grow (Grow.fresh hp)) e
  exact ⟨x, p, _, _, _, b, rfl, upd_same, .cons (.ty _) (.cons (.ty _) .nil), ty, kit_two cs, q _ (.inr ⟨p, _, hp, rfl⟩)⟩
end

/-! ### defs -/
section
variable (K : PySem.W.Frag) (T : Txt)
def OkC (m : List Addr) (H : Hp) (r : R D) (Q : VK) (E : XK) : Prop :=
  match r with
  | some (.ok d S) => ∀ m' v H', Grow m H m' H' → StOk K T m' S H' → Rep K T m' H' v d → Q v H'
  | some (.ex x S) => ∀ m' cls dd H', Grow m H m' H' → StOk K T m' S H' → RepX T H' cls dd x → E cls dd H'
  | none => False
/-- a def's promise: what the small language says -/
def spF (cl : Nat → List D → Store → R D) (f n : Nat) : Sp := fun vs H Q E => ∃ l m ds S, ds.length = n ∧ StOk K (T.hs l) m S H ∧ Reps K (T.hs l) m H vs ds ∧ OkC K (T.hs l) m H (cl f ds S) Q E
end
structure FnAt (X : Cx) (T : Txt) (cl : Nat → List D → Store → R D) (k f : Nat) : Prop where
  ex : ∃ n fd ps, FnOk X.prog X.w X.K X.mg X.base (L2.CX X.prog X.w) k (T.fad f) fd ps (spF X.K T cl f n) ∧ L2.Binds X.K fd ps [] ∧ ∀ ds S, cl f ds S ≠ none → ds.length = n
  kp : PySem.W.keepIn X.K (.ref (T.fad f)) = true
section
variable {X : Cx} {T : Txt} {P : Prog} {cl : Nat → List D → Store → R D} {W : WX}
/-- from the caller's state to the callee's, and back -/
theorem call_to {n : Nat} {f : Nat} {m : List Addr} {ρ : Env} {S : Store} {σ : L2.St} {H : Hp} {Q : VK} {vs : List V} {ds : List D} (s : Sim X.K T m ρ S σ H) (r : Reps X.K T m H vs ds) (hn : ∀ ds S, cl f ds S ≠ none → ds.length = n)
    (h : OkR X.K T (Rep X.K T) W σ m ρ H (cl f ds S) Q) : spF X.K T cl f n vs H Q (WE W σ) := by
  cases e : cl f ds S with
  | none => rw [e] at h; exact h.elim
  | some res =>
    refine ⟨T.hid, m, ds, S, hn ds S (by rw [e]; simp), s.st, r, ?_⟩
    rw [e] at h ⊢
    have back : ∀ {m' : List Addr} {S' : Store} {H' : Hp}, Grow m H m' H' → StOk X.K T m' S' H' → Sim X.K T m' ρ S' σ H' := fun g st => ⟨st, s.len, fun i d hi => let ⟨v, h1, h2⟩ := s.env i d hi; ⟨v, h1, h2.grow g⟩⟩
    cases res with
    | ok d S' => exact fun m' v H' g st rr => h m' v H' g (back g st) rr
    | ex x S' => exact fun m' cls dd H' g st rr => h m' cls dd H' g (back g st) rr
theorem se_call {x : Str} {f k : Nat} {p pos : Pos} {e : Expr} {es : List Expr} {A : Es} (F : FnAt X T cl k f) (hr : Room k X.A) (tk : Takes X W) (hg : Gl X x) (hm : X.mg x = some (.ref (T.fad f))) (ha : PA X (e :: es) ((tEs X.K T P cl W) A))
    (hdb : (x == ("__debug__" : Str)) = false) (he : starEach (e :: es) X.env = (false, eval e X.env) :: starEach es X.env) (hpl : (backTo pos (starEach es X.env)).any (·.1) = false) :
    PE X (.Call (.Name x p) (e :: es) [] pos) ((tE X.K T P cl W) (.call f A)) := by
  obtain ⟨n, fd, ps, F1, F2, hn⟩ := F.ex
  refine PE.imp (pe_callS F1 hr hg hm F.kp F2 (fun σ => passAt tk σ) ha hdb he hpl) ?_
  rintro σ H Q ⟨m, ρ, S, s, h⟩
  rw [ev] at h
  exact ⟨m, ρ, S, s, h.bnd fun m1 vs H1 ds S1 g1 s1 r1 h1 => call_to s1 r1 hn h1⟩
theorem se_call0 {x : Str} {f k : Nat} {p pos : Pos} (F : FnAt X T cl k f) (hr : Room k X.A) (tk : Takes X W) (hg : Gl X x) (hm : X.mg x = some (.ref (T.fad f))) (hdb : (x == ("__debug__" : Str)) = false) :
    PE X (.Call (.Name x p) [] [] pos) ((tE X.K T P cl W) (.call f .nil)) := by
  obtain ⟨n, fd, ps, F1, F2, hn⟩ := F.ex
  refine ⟨fun pins s0 σ H Q I hq => ?_⟩
  obtain ⟨m, ρ, S, s, h⟩ := hq
  rw [ev, evs] at h
  refine wpAny_Call_Name_kw (ld_glob I hg hm ?_ hdb)
  exact PySem.W.callWith_K0 I.kIn F.kp (run_fnS (us := []) F1 hr F2 (passAt tk σ) I .nil (call_to s .nil hn h))
/-! ### fields, methods -/
theorem repF_lookup {m : List Addr} {H : Hp} : ∀ {fs : List (Str × V)} {ks : List Nat} {ds : List D} {k : Nat} {d : D}, RepF X.K T m H fs ks ds → (ks.zip ds).lookup k = some d → ∃ v, fs.lookup (T.att k) = some v ∧ Rep X.K T m H v d
  | _, _, _, _, _, .nil, h => by simp at h
  | _, _, _, k, d, .cons (k := j) (v := v) (fs := fs) q r, h => by
    rw [List.zip_cons_cons, List.lookup_cons] at h
    rw [List.lookup_cons]
    by_cases e : k = j
    · subst e
      simp only [beq_self_eq_true] at h ⊢
      cases h
      exact ⟨v, rfl, q⟩
    · have e1 : (k == j) = false := by simp [e]
      have e2 : (T.att k == T.att j) = false := by
        have : ¬ T.att k = T.att j := fun z => e (T.inj _ _ z)
        simp [this]
      rw [e1] at h
      rw [e2]
      exact repF_lookup r h
theorem repF_none {m : List Addr} {H : Hp} : ∀ {fs : List (Str × V)} {ks : List Nat} {ds : List D} {k : Nat}, RepF X.K T m H fs ks ds → ks.contains k = false → fs.lookup (T.att k) = none
  | _, _, _, _, .nil, _ => rfl
  | _, _, _, k, .cons (k := j) q r, h => by
    rw [List.contains_cons, Bool.or_eq_false_iff] at h
    rw [List.lookup_cons]
    have e : ¬ k = j := by simpa using h.1
    have e2 : (T.att k == T.att j) = false := by
      have : ¬ T.att k = T.att j := fun z => e (T.inj _ _ z)
      simp [this]
    rw [e2]
    exact repF_none r h.2
theorem se_fld {e : Expr} {A : E} {f : Nat} {pos : Pos} (hc : ∀ c, P.fok c f = true → Cls X.K (T.cls c) ∧ NoAttr X.K (T.cls c) (T.att f)) (ha : PE X e ((tE X.K T P cl W) A)) (hb : attributeBase e (T.att f) X.env (eval e X.env) = eval e X.env) :
    PE X (.Attribute e (T.att f) pos) ((tE X.K T P cl W) (.fld A f)) := by
  refine PE.imp (pe_fld ha hb) ?_
  rintro σ H Q ⟨m, ρ, S, s, h⟩
  rw [ev] at h
  refine ⟨m, ρ, S, s, h.bnd fun m1 x H1 dx S1 g1 s1 r1 h1 => ?_⟩
  cases dx with
  | obj c ks vs =>
    simp only at h1
    split at h1
    · rename_i hfk
      split at h1
      · rename_i d e
        obtain ⟨c1, c2⟩ := hc c hfk
        cases r1 with
        | obj ha _ rf =>
          obtain ⟨v, hv, rv⟩ := repF_lookup rf e
          exact ⟨_, _, _, _, v, rfl, ha, c1, c2, hv, OkR.pure h1 s1 rv⟩
      · exact h1.elim
    · exact h1.elim
  | _ => exact h1.elim
def tMethS (C : Addr) (m : Str) (sp : Sp) (E : L2.St → XK) (ta : TE) (t : TA) : TE := fun σ H Q => ta σ H fun x H1 => ∃ a dx fs, x = .ref a ∧ H1 a = some (.ins C dx fs) ∧ fs.lookup m = none ∧ t σ H1 fun vs H2 => sp (x :: vs) H2 Q (E σ)
theorem pe_methS {CX : CXT} {k : Nat} {f C : Addr} {fd : FuncData} {ps : List Str} {sp : Sp} {E : L2.St → XK} {m : Str} {pos apos : Pos} {e o : Expr} {es : List Expr} {ta : TE} {t : TA} {pl : Sem Bool} (he : PE X o ta) (c : Cls X.K C) (hm : Meth X.K C m f)
    (F : FnOk X.prog X.w X.K X.mg X.base CX k f fd ps sp) (hr : Room k X.A) (hb : L2.Binds X.K fd ps []) (hx : ∀ σ, PassesAt CX X σ (E σ)) (ha : PA X (e :: es) t)
    (hst : starEach (e :: es) X.env = (false, eval e X.env) :: starEach es X.env) (hpl : (backTo pos (starEach es X.env)).any (·.1) = false)
    (ht : eval (.Call (.Attribute o m apos) (e :: es) [] pos) X.env = (do
      let ov ← eval o X.env
      standAt apos.atName
      let (f, first) ← holding [ov] (getMethod ov m pl)
      callWith pos f first (backTo pos (starEach (e :: es) X.env)) (backToKw pos (keywordEach [] X.env)))) :
    PE X (.Call (.Attribute o m apos) (e :: es) [] pos) (tMethS C m sp E ta t) :=
  ⟨fun pins s σ H Q I h => PySem.W.methodCall_KW (pl := pl) (thn (he.run pins s σ H _ I h) fun u s1 ⟨x, H1, I1, rx, a, dx, fs, ex, ea, l, q⟩ => by
    subst ex
    obtain rfl : u = Value.ref a := rx
    refine getmeth_ok I1 ea c hm l (PySem.W.callWith_K (first := [.ref a]) (h₀ := X.base) I.ok.mod.kin hm.kp (thn (ha.run pos pins s1 σ H1 _ I1 q) fun us s2 ⟨vs, H2, I2, r, q2⟩ => ⟨I2.kIn, ?_⟩) hst hpl)
    exact run_fnS (us := .ref a :: us) (vs := .ref a :: vs) F hr hb (hx σ) I2 (.cons rfl r) q2) ht⟩
theorem pe_methS0 {CX : CXT} {k : Nat} {f C : Addr} {fd : FuncData} {ps : List Str} {sp : Sp} {E : L2.St → XK} {m : Str} {pos apos : Pos} {o : Expr} {ta : TE} {pl : Sem Bool} (he : PE X o ta) (c : Cls X.K C) (hm : Meth X.K C m f)
    (F : FnOk X.prog X.w X.K X.mg X.base CX k f fd ps sp) (hr : Room k X.A) (hb : L2.Binds X.K fd ps []) (hx : ∀ σ, PassesAt CX X σ (E σ))
    (ht : eval (.Call (.Attribute o m apos) [] [] pos) X.env = (do
      let ov ← eval o X.env
      standAt apos.atName
      let (f, first) ← holding [ov] (getMethod ov m pl)
      callWith pos f first (backTo pos (starEach [] X.env)) (backToKw pos (keywordEach [] X.env)))) :
    PE X (.Call (.Attribute o m apos) [] [] pos) (tMethS C m sp E ta tNil) :=
  ⟨fun pins s σ H Q I h => PySem.W.methodCall_KW (pl := pl) (thn (he.run pins s σ H _ I h) fun u s1 ⟨x, H1, I1, rx, a, dx, fs, ex, ea, l, q⟩ => by
    subst ex
    obtain rfl : u = Value.ref a := rx
    exact getmeth_ok I1 ea c hm l (PySem.W.callWith_K0 (first := [.ref a]) I1.kIn hm.kp (run_fnS (us := [.ref a]) (vs := [.ref a]) F hr hb (hx σ) I1 (.cons rfl .nil) q))) ht⟩
/-- what stands of the classes -/
structure MethAt (X : Cx) (T : Txt) (P : Prog) (cl : Nat → List D → Store → R D) (k m : Nat) : Prop where
  ok : ∀ c f, P.meth c m = some f → Cls X.K (T.cls c) ∧ Meth X.K (T.cls c) (T.att m) (T.fad f) ∧ FnAt X T cl k f
structure MethIx (X : Cx) (T : Txt) (cl : Nat → List D → Store → R D) (k m : Nat) where
  c : Nat
  f : Nat
  n : Nat
  fd : FuncData
  ps : List Str
  h1 : Cls X.K (T.cls c)
  h2 : Meth X.K (T.cls c) (T.att m) (T.fad f)
  h3 : FnOk X.prog X.w X.K X.mg X.base (L2.CX X.prog X.w) k (T.fad f) fd ps (spF X.K T cl f n)
  h4 : L2.Binds X.K fd ps []
theorem se_meth {o e : Expr} {es : List Expr} {A : E} {B : Es} {m k : Nat} {pos apos : Pos} {pl : Sem Bool} (M : MethAt X T P cl k m) (hr : Room k X.A) (tk : Takes X W) (ho : PE X o ((tE X.K T P cl W) A)) (ha : PA X (e :: es) ((tEs X.K T P cl W) B))
    (hst : starEach (e :: es) X.env = (false, eval e X.env) :: starEach es X.env) (hpl : (backTo pos (starEach es X.env)).any (·.1) = false)
    (ht : eval (.Call (.Attribute o (T.att m) apos) (e :: es) [] pos) X.env = (do
      let ov ← eval o X.env
      standAt apos.atName
      let (f, first) ← holding [ov] (getMethod ov (T.att m) pl)
      callWith pos f first (backTo pos (starEach (e :: es) X.env)) (backToKw pos (keywordEach [] X.env)))) :
    PE X (.Call (.Attribute o (T.att m) apos) (e :: es) [] pos) ((tE X.K T P cl W) (.meth A m B)) := by
  refine PE.imp (PE.some (ι := MethIx X T cl k m) fun i => pe_methS ho i.h1 i.h2 i.h3 hr i.h4 (fun σ => passAt tk σ) ha hst hpl ht) ?_
  rintro σ H Q ⟨m0, ρ, S, s, h⟩
  rw [ev] at h
  split at h
  · rename_i c ks vs S1 e
    cases em : P.meth c m with
    | none => rw [em] at h; exact h.elim
    | some f =>
      rw [em] at h
      simp only at h
      split at h
      · exact h.elim
      · rename_i hk
        obtain ⟨c1, c2, F⟩ := M.ok c f em
        obtain ⟨n, fd, ps, F1, F2, hn⟩ := F.ex
        refine ⟨⟨c, f, n, fd, ps, c1, c2, F1, F2⟩, m0, ρ, S, s, ?_⟩
        rw [e]
        intro m1 x H1 g1 s1 r1
        have r1' := r1
        cases r1' with
        | obj hx hnm rf => exact ⟨_, _, _, rfl, hx, repF_none rf (by simpa using hk), m1, ρ, S1, s1, (OkR.grow g1 h).bnd fun m2 ws H2 ds S2 g2 s2 r2 h2 => call_to s2 (.cons (r1.grow g2) r2) hn h2⟩
  · exact h.elim
theorem se_meth0 {o : Expr} {A : E} {m k : Nat} {pos apos : Pos} {pl : Sem Bool} (M : MethAt X T P cl k m) (hr : Room k X.A) (tk : Takes X W) (ho : PE X o ((tE X.K T P cl W) A))
    (ht : eval (.Call (.Attribute o (T.att m) apos) [] [] pos) X.env = (do
      let ov ← eval o X.env
      standAt apos.atName
      let (f, first) ← holding [ov] (getMethod ov (T.att m) pl)
      callWith pos f first (backTo pos (starEach [] X.env)) (backToKw pos (keywordEach [] X.env)))) :
    PE X (.Call (.Attribute o (T.att m) apos) [] [] pos) ((tE X.K T P cl W) (.meth A m .nil)) := by
  refine PE.imp (PE.some (ι := MethIx X T cl k m) fun i => pe_methS0 ho i.h1 i.h2 i.h3 hr i.h4 (fun σ => passAt tk σ) ht) ?_
  rintro σ H Q ⟨m0, ρ, S, s, h⟩
  rw [ev] at h
  split at h
  · rename_i c ks vs S1 e
    cases em : P.meth c m with
    | none => rw [em] at h; exact h.elim
    | some f =>
      rw [em] at h
      simp only at h
      split at h
      · exact h.elim
      · rename_i hk
        obtain ⟨c1, c2, F⟩ := M.ok c f em
        obtain ⟨n, fd, ps, F1, F2, hn⟩ := F.ex
        refine ⟨⟨c, f, n, fd, ps, c1, c2, F1, F2⟩, m0, ρ, S, s, ?_⟩
        rw [e]
        intro m1 x H1 g1 s1 r1
        have r1' := r1
        cases r1' with
        | obj hx hnm rf => exact ⟨_, _, _, rfl, hx, repF_none rf (by simpa using hk), call_to s1 (.cons r1 .nil) hn (by have h' := OkR.grow g1 h; rw [evs] at h'; exact h')⟩
  · exact h.elim
/-! ### new instances -/
/-- C(e, ..), by C's __init__ -/
theorem se_mk {x : Str} {c f k : Nat} {p pos : Pos} {e : Expr} {es : List Expr} {A : Es} (hi : P.init c = some f) (F : FnAt X T cl k f) (M : Mk X.K (T.cls c) (T.fad f)) (hr : Room (k + 1) X.A) (hg : Gl X x) (hm : X.mg x = some (.ref (T.cls c)))
    (ha : PA X (e :: es) ((tEs X.K T P cl W) A)) (hdb : (x == ("__debug__" : Str)) = false) (he : starEach (e :: es) X.env = (false, eval e X.env) :: starEach es X.env) (hpl : (backTo pos (starEach es X.env)).any (·.1) = false) :
    PE X (.Call (.Name x p) (e :: es) [] pos) ((tE X.K T P cl W) (.mk c A)) := by
  obtain ⟨n, fd, ps, F1, F2, hn⟩ := F.ex
  refine PE.imp (pe_make (dvs := []) (ds := []) M F1 hr hg hm F2 .nil passL ha hdb he hpl) ?_
  rintro σ H Q ⟨m, ρ, S, s, h⟩
  rw [ev] at h
  refine ⟨m, ρ, S, s, h.bnd fun m1 vs H1 ds S1 g1 s1 r1 h1 x dx hx hdx hne => ?_⟩
  rw [hi] at h1
  simp only at h1
  have hdx' : H1 dx = none := hdx
  have hxo : (upd H1 dx (.own x)) x = none := by rw [upd_ne (Ne.symm hne)]; exact hx
  -- the new instance is a cell
  have g2 : Grow m1 H1 m1 (upd H1 dx (.own x)) := Grow.fresh hdx
  have st2 := s1.st.beside (o := .own x) hdx
  have g3 : Grow m1 (upd H1 dx (.own x)) (m1 ++ [x]) (upd (upd H1 dx (.own x)) x (.ins (T.cls c) dx [])) := Grow.own hxo
  have st3 : StOk X.K T (m1 ++ [x]) (S1 ++ [.ins c [] []]) (upd (upd H1 dx (.own x)) x (.ins (T.cls c) dx [])) :=
    st2.more hxo ⟨dx, [], upd_same, .nil⟩ rfl
  have g := g2.trans g3
  cases e : cl f (.ref S1.length :: ds) (S1 ++ [.ins c [] []]) with
  | none => rw [e] at h1; exact h1.elim
  | some r => cases r with
    | ex x S2 => rw [e] at h1; exact h1.elim
    | ok d S2 =>
      rw [e] at h1
      cases d <;> try exact h1.elim
      simp only at h1
      refine ⟨T.hid, m1 ++ [x], .ref S1.length :: ds, S1 ++ [.ins c [] []], hn _ _ (by rw [e]; simp), (show StOk X.K (T.hs T.hid) (m1 ++ [x]) (S1 ++ [.ins c [] []]) (upd (upd H1 dx (.own x)) x (.ins (T.cls c) dx [])) from st3), (show Reps X.K T _ _ _ _ from ?_), (show OkC X.K T _ _ _ _ _ from ?_)⟩
      · rw [List.append_nil]
        exact .cons (.ref (by rw [← s1.st.len]; simp)) (r1.grow g)
      · rw [e]
        intro m' v H' g4 st4 r4
        cases e2 : S2[S1.length]? with
        | none => rw [e2] at h1; exact h1.elim
        | some cell =>
          rw [e2] at h1
          cases cell with
          | ins c' ks vs' =>
            simp only at h1
            split at h1
            · rename_i hc
              obtain ⟨rfl, hlt⟩ := hc
              obtain ⟨a, ha, q, _⟩ := st4.get e2
              have ha' : a = x := by
                have hp := g4.pre
                obtain ⟨t, et⟩ := hp
                rw [← et, ← s1.st.len, List.append_assoc, List.getElem?_append_right (Nat.le_refl _), Nat.sub_self] at ha
                simpa using ha.symm
              subst ha'
              obtain ⟨dx', fs, e3, rf⟩ := q
              -- back: the cell is let go
              obtain ⟨g5, e5⟩ := (g.trans g4).cutTo s1.st.len.symm
              cases r4
              refine ⟨rfl, h1 m1 _ _ (by rw [e5] at g5; exact g5) ⟨by have := st4.cutTo S1.length; rw [e5] at this; exact this, s1.len, fun i d hi => ?_⟩ ?_⟩
              · obtain ⟨w, h1', h2'⟩ := s1.env i d hi
                exact ⟨w, h1', h2'.grow (by rw [e5] at g5; exact g5)⟩
              · refine .obj e3 (s1.st.fresh hx) ?_
                have := rf.take (n := S1.length) hlt
                rw [e5] at this
                exact this
            · exact h1.elim
          | _ => exact h1.elim
end
end RG
set_option Elab.async false
set_option linter.all false
set_option maxRecDepth 100000
/-! enumerate of a tuple, walked. -/
namespace RG
open PySem PySem.Spec PyProof.Rows L2
open AutoSeq1 (wpAny_loadPart')

theorem draws_tuple {prog : Program} {w : World} {A : Around} (hh : A.handled = none) (it l : Addr) (hne : l ≠ it) (items : Array Value) :
    Draws prog w A it [it, l] items.size (fun i v => items[i]? = some v) (fun i h => h.IsTupleIter it l i ∧ h.IsTuple l items) where
  live := fun _ _ st => let ⟨o, ho, _⟩ := st.1; ⟨o, ho⟩
  frame := fun _ _ _ st hk => ⟨st.1.at fun o e => hk it (by simp) o e, let ⟨o, ho, r⟩ := st.2; ⟨o, hk l (by simp) o ho, r⟩⟩
  item := fun i s Q E hi st hQ => by
    refine RZ.nextOf_tuple_item st.1 st.2 (x := items[i]) (by simp [hi]) fun h' hit' hs' => ?_
    exact hQ _ h' s.toks (by simp [hi]) ⟨hit', let ⟨o, ho, r⟩ := st.2; ⟨o, (hs'.2 l hne).trans ho, r⟩⟩ hs'
  done := fun s Q E st hE => RZ.nextOf_tuple_end hh st.1 st.2 (by simp) hE
set_option maxHeartbeats 1000000 in
theorem meets_enum_tuple (l : Addr) (items : Array Value) (n : Nat) (dct : Option Addr) (sl : Array (Option Value)) :
    Meets (Builtin.«enumerate.__new__» ⟨[.type "enumerate", .ref l], []⟩) (fun _ R s => s.heap.get? l = some { cls := .type "tuple", dict := dct, data := .seq items n, slots := sl } ∧
      R (.ok (.ret (.ref (s.heap.push { cls := .type "tuple_iterator", data := .fields #[.ref l, .int 0 0] }).objs.size)))
        { s with heap := (s.heap.push { cls := .type "tuple_iterator", data := .fields #[.ref l, .int 0 0] }).push { cls := .type "enumerate", data := .fields #[.none, .bool false, .ref s.heap.objs.size, rawInt 0, .none, .none] } }) :=
  .of_wp fun prog w A R s h => by
    obtain ⟨hp, g, d, tk, os⟩ := s; obtain ⟨hl, h⟩ := h
    have hsub := sub_enumerate
    have hT : Heap.IsTuple (Shared.heap ⟨hp, g, d, tk, os⟩) l items := ⟨_, hl, rfl, n, rfl⟩
    wp_walk using wpAny_loadPart' hl
    refine wpAny_stack_any fun st => wpAny_pure ?_
    split
    · rename_i c _ _ _ _ _
      cases (c == Value.type "enumerate")
      · wp_walk using wpAny_loadPart' hl, wpAny_pyIter_tuple hT
        exact ⟨_, rfl, h⟩
      · wp_walk using wpAny_loadPart' hl, wpAny_pyIter_tuple hT
        exact ⟨_, rfl, h⟩
    · wp_walk using wpAny_loadPart' hl, wpAny_pyIter_tuple hT
      exact ⟨_, rfl, h⟩
theorem call_enum_tuple {prog : Program} {w : World} {A : Around} {E : Value → Shared → Prop} {s : Shared} {l : Addr} {items : Array Value} {Q : Value → Shared → Prop} (hL : s.heap.IsTuple l items)
    (h : ∀ h', IsEnum h' (s.heap.objs.size + 1) s.heap.objs.size 0 .none → h'.IsTupleIter s.heap.objs.size l 0 → h'.objs.size = s.heap.objs.size + 2 →
      (∀ b o, s.heap.get? b = some o → h'.get? b = some o) → Q (.ref (s.heap.objs.size + 1)) { s with heap := h' }) :
    wpAny (model prog w) A (call (.type "enumerate") [.ref l]) Q E s := by
  obtain ⟨⟨c, dct, dt, sl⟩, hl, hc, n, hd⟩ := hL
  replace hc : c = .type "tuple" := hc
  replace hd : dt = .seq items n := hd
  subst hc hd
  refine callType_new F.called_enumerate (by decide) (F.typeCall_enumerate_1 _) (F.newCall_enumerate_1 _) (fun obj => F.args_object_init_2 obj _) F.entry_enumerate_new
    (meets_enum_tuple l items n dct sl) ⟨hl, ?_⟩
  have hz : (s.heap.push { cls := .type "tuple_iterator", data := .fields #[.ref l, .int 0 0] }).objs.size = s.heap.objs.size + 1 := Heap.size_push ..
  show _ ∧ _
  rw [hz]
  have he : IsEnum ((s.heap.push { cls := .type "tuple_iterator", data := .fields #[.ref l, .int 0 0] }).push
      { cls := .type "enumerate", data := .fields #[.none, .bool false, .ref s.heap.objs.size, rawInt 0, .none, .none] }) (s.heap.objs.size + 1) s.heap.objs.size 0 .none := by
    have := Heap.get?_push_size (s.heap.push { cls := .type "tuple_iterator", data := .fields #[.ref l, .int 0 0] })
      (o := { cls := .type "enumerate", data := .fields #[.none, .bool false, .ref s.heap.objs.size, rawInt 0, .none, .none] }) rfl
    rw [hz] at this; exact this
  refine ⟨⟨_, he, rfl⟩, h _ he ⟨_, Heap.get?_push_of_some _ (Heap.get?_push_size _ rfl), rfl, rfl⟩ (by rw [Heap.size_push, hz]) fun b o x => Heap.get?_push_of_some _ (Heap.get?_push_of_some _ x)⟩

theorem enumT_end {prog : Program} {w : World} {A : Around} {E : Value → Shared → Prop} {s : Shared} {e it l : Addr} {k : Nat} {items : Array Value} {i : Int} {old : Value} {Q : Option Value → Shared → Prop} (hh : A.handled = none)
    (he : IsEnum s.heap e it i old) (hit : s.heap.IsTupleIter it l k) (hl : s.heap.IsTuple l items) (hx : items[k]? = none)
    (hQ : ∀ h', Heap.ExtBut it s.heap h' → Q none { s with heap := h' }) : wpAny (model prog w) A (pyNext (.ref e)) Q E s := by
  have hT : s.TypeIs (.ref e) "enumerate" := ⟨_, he, rfl⟩
  unfold pyNext
  refine wpAny_bind (wpAny_attempt (wpAny_callSpecial?_slot (name := Str.ofString "__next__") hT F.slot_enumerate_next
    (wpAny_call_entry F.slot_enumerate_next hT F.entry_enumerate_next ?_ (F.args_enumerate_next_1 _))))
  show wpAny _ _ (field (.ref e) 2 >>= _) _ _ _
  refine wpAny_bind (wpAny_field he rfl (x := .ref it) rfl ?_)
  refine wpAny_bind (RZ.nextOf_tuple_end (show A.in1.handled = none from hh) hit hl hx fun h' x he' hx' => ?_)
  obtain ⟨o, ho, hc⟩ := hx'
  exact wpAny_bind (wpAny_isInstance (T := "StopIteration") (b := true) ⟨o, ho, hc⟩ isSubtype_stop (wpAny_pure (hQ _ he')))

/-- the tuple at a, each item in a new pair -/
def ItT (K : PySem.W.Frag) (a : Addr) : L2.It :=
  ⟨fun i H => ∃ (xs : List V) (x : V), SqT K H a xs ∧ xs[i]? = some x, fun i H v H' => ∃ T x, v = .ref T ∧ H T = none ∧ H' = upd H T (.tup [.int (i : Nat), x]) ∧ ∀ xs, SqT K H a xs → xs[i]? = some x, fun i H => ∃ xs : List V, SqT K H a xs ∧ xs.length ≤ i⟩
theorem turn_enumT {P : Program} {w : World} {K : PySem.W.Frag} {elts : List Expr} {kk : Nat} {tpos : Pos} (a e it : Addr) :
    Turn P w K (.Tuple elts kk tpos) (ItT K a) [e, it] e (fun i h => (∃ old, IsEnum h e it ((i : Nat) : Int) old) ∧ h.IsTupleIter it a i ∧ e ≠ it) where
  mem := by simp
  obj := fun i h st b hb => by
    obtain ⟨⟨old, he⟩, ⟨o, ho, hc, hd⟩, _⟩ := st
    have e' : b = e ∨ b = it := by simpa using hb
    rcases e' with z | z
    · rw [z]; exact ⟨_, he, fun v q => nomatch q⟩
    · rw [z]; exact ⟨o, ho, fun v q => by rw [hd] at q; cases q⟩
  keep := fun i h h' st k => let ⟨⟨old, he⟩, hi, hne⟩ := st; ⟨⟨old, k e (by simp) _ he⟩, hi.at fun o q => k it (by simp) o q, hne⟩
  item := by
    intro X hP hw hK hc i pins s σ H E I hf st hg
    subst hP hw hK
    obtain ⟨⟨old, he⟩, hit, hne⟩ := st
    obtain ⟨xs, x, hq, hx⟩ := hg
    obtain ⟨its, rv, p, hz⟩ := I.tuple hq
    obtain ⟨u, hu, ru⟩ := rv.get hx
    have hel : e < s.heap.objs.size := Heap.lt_size he
    have hil : it < s.heap.objs.size := by obtain ⟨_, q, _⟩ := hit; exact Heap.lt_size q
    obtain ⟨oa, hoa, hca, na, hda⟩ := p
    have nae : a ≠ e := fun z => by
      subst z
      rw [he] at hoa; cases hoa
      simp at hda
    have nai : a ≠ it := fun z => by
      subst z
      obtain ⟨o2, q1, q2, q3⟩ := hit
      rw [q1] at hoa; cases hoa
      rw [q3] at hda; cases hda
    have pT : s.heap.IsTuple a its.toArray := ⟨oa, hoa, hca, na, hda⟩
    have D : Draws X.prog X.w X.A.in1 it [it, a] its.toArray.size (fun i v => its.toArray[i]? = some v) (fun i h => h.IsTupleIter it a i ∧ h.IsTuple a its.toArray) :=
      draws_tuple (show X.A.in1.handled = none from I.ok.hd hc) it a nai its.toArray
    have hlt : i < its.toArray.size := by
      have := (List.getElem?_eq_some_iff.mp hu).1
      simpa using this
    refine wpAny_pyNext_enum_itemD D he ⟨hit, pT⟩ hlt hne (by simp only [List.mem_cons, List.not_mem_nil, or_false, not_or]; exact ⟨hne, Ne.symm nae⟩) fun x' h' tk hx' ho hit' hT hsz hk => ?_
    have ex : x' = u := by
      have : its.toArray[i]? = some u := by simpa using hu
      rw [this] at hx'
      exact (Option.some.inj hx').symm
    subst ex
    refine ⟨_, rfl, wpAny_letOwnedTupleGo_enum (s := { s with heap := h', toks := tk + 1 }) ho fun h'' he' sb => ?_⟩
    have hT2 : h''.get? s.heap.objs.size = some { cls := .type "tuple", data := .seq #[.int i tk, x'] } := (sb.2 _ (Nat.ne_of_gt hel)).trans hT
    have new : ObjOk X.prog X.w (upd H s.heap.objs.size (.tup [.int (i : Nat), x])) h'' s.heap.objs.size (.tup [.int (i : Nat), x]) :=
      ⟨by show 2 ≤ sizeLine; decide, [.int i tk, x'], .cons ⟨_, rfl⟩ (.cons ru .nil), ⟨_, hT2, rfl, _, rfl⟩⟩
    have I1 : Inv X pins σ (upd H s.heap.objs.size (.tup [.int (i : Nat), x])) { s with heap := h'', toks := tk + 1 } :=
      I.turnedNew (ch := [e, it]) (fun b ob hb q => (sb.2 b (fun z => hb (by simp [z]))).trans (hk b ob (fun z => hb (by simp [z])) (fun z => hb (by simp [z])) q)) hf (Nat.le_refl _) new
    refine ⟨.ref s.heap.objs.size, _, I1, rfl, ⟨_, x, rfl, I.hok.fresh (Nat.le_refl _), rfl, fun ys hy => by rw [I.tuple_inj hy hq]; exact hx⟩, ⟨⟨x', ?_⟩, hit'.1.at fun o q => (sb.2 it (Ne.symm hne)).trans q, hne⟩, fun b hb => ?_⟩
    · have e1 : ((i + 1 : Nat) : Int) = (i : Int) + 1 := by omega
      rw [e1]; exact he'
    · have hb' : b < s.heap.objs.size := by
        have e' : b = e ∨ b = it := by simpa using hb
        rcases e' with z | z
        · rw [z]; exact hel
        · rw [z]; exact hil
      rw [upd_ne (Nat.ne_of_lt hb')]
      exact (hf b hb).1
  done := by
    intro X hP hw hK hc i pins s σ H E I hf st hg
    subst hP hw hK
    obtain ⟨⟨old, he⟩, hit, hne⟩ := st
    obtain ⟨xs, hq, hx⟩ := hg
    obtain ⟨its, rv, p, hz⟩ := I.tuple hq
    obtain ⟨f0, f1, f2, f3, f4, f5⟩ := hf it (by simp)
    have hl := rv.length
    exact enumT_end (I.ok.hd hc) he hit (show s.heap.IsTuple a its.toArray from p) (by simp; omega) fun h' eb => ⟨rfl, I.turned (t' := s.toks) (fun b o hb q => eb b o hb q) f0 f1 f3 f4 f5⟩
  self := fun A i s Q E st h => let ⟨⟨_, he⟩, _⟩ := st; wpAny_pyIter_enum he h
/-- enumerate of a list or of a tuple -/
def iEnumA (K : PySem.W.Frag) (ta : TA) : TI := fun σ H R => ta σ H fun vs H1 => ∃ a xs, vs = [.ref a] ∧ ((SqL K H1 a xs ∧ R (Ite K a) H1) ∨ (SqT K H1 a xs ∧ R (ItT K a) H1))
theorem pi_enumA {X : Cx} {e : Expr} {ta : TA} {p pos tpos : Pos} {elts : List Expr} {kk : Nat} (hg : Gl X "enumerate") (hm : X.mg "enumerate" = none) (ha : PA X [e] ta) (hs : starEach [e] X.env = [(false, eval e X.env)]) :
    PI X (.Tuple elts kk tpos) (.Call (.Name "enumerate" p) [e] [] pos) (iEnumA X.K ta) := by
  refine ⟨fun pins s σ H R I h => ?_⟩
  refine Call_ (ld_blt I hg hm boot_enumerate (PyProof.Rows.callWith_type1 (thn (ha.run pos pins s σ H _ I h) fun us s1 ⟨vs, H1, I1, r1, q1⟩ => ?_) hs rfl))
  obtain ⟨a, xs, ex, q⟩ := q1
  subst ex
  have fresh2 : ∀ b ∈ [s1.heap.objs.size + 1, s1.heap.objs.size], FpOk X pins H1 b := fun b hb => by
    have e' : b = s1.heap.objs.size + 1 ∨ b = s1.heap.objs.size := by simpa using hb
    have hle : s1.heap.objs.size ≤ b := by omega
    exact I1.fpOk hle (I1.hok.fresh hle)
  cases r1 with
  | cons r rr =>
    cases rr
    cases r
    rcases q with ⟨hq, q⟩ | ⟨hq, q⟩
    · obtain ⟨its, rv, p', hz⟩ := I1.list hq
      refine call_enumerate_list p'.isList fun h' he hit hsz hk => wpAny_pyIter_enum he ?_
      exact ⟨s1.heap.objs.size + 1, [s1.heap.objs.size + 1, s1.heap.objs.size], _, _, H1, rfl, I1.kept (t' := s1.toks) hk, turn_enum a (s1.heap.objs.size + 1) s1.heap.objs.size, ⟨⟨.none, he⟩, hit, Nat.succ_ne_self _⟩, fresh2, q⟩
    · obtain ⟨its, rv, p', hz⟩ := I1.tuple hq
      refine call_enum_tuple (show s1.heap.IsTuple a its.toArray from p') fun h' he hit hsz hk => wpAny_pyIter_enum he ?_
      exact ⟨s1.heap.objs.size + 1, [s1.heap.objs.size + 1, s1.heap.objs.size], _, _, H1, rfl, I1.kept (t' := s1.toks) hk, turn_enumT a (s1.heap.objs.size + 1) s1.heap.objs.size, ⟨⟨.none, he⟩, hit, Nat.succ_ne_self _⟩, fresh2, q⟩
end RG
set_option Elab.async false
set_option linter.all false
set_option maxRecDepth 100000
/-! Slices, new lists, targets, what is walked, comprehensions. -/
namespace RG
open PySem PySem.Spec PyProof.Rows L2

section
variable {X : Cx} {T : Txt} {P : Prog} {cl : Nat → List D → Store → R D} {W : WX}

/-! ### slices -/
def rSl (K : PySem.W.Frag) (T : Txt) : V → Option Int → Option Int → Hp → VK → Prop := fun x lo hi H Q => ∃ (m : List Addr) (S : Store) (d z : D), StOk K T m S H ∧ Rep K T m H x d ∧ slice S d lo hi = some z ∧ ∀ v H', Beside H H' → Rep K T m H' v z → Q v H'
theorem cut_rep {m : List Addr} {H : Hp} {vs : List V} {ds : List D} (r : Reps X.K T m H vs ds) (lo hi : Option Int) : Reps X.K T m H (cutV vs lo hi) (cut ds lo hi) := by
  have e : ∀ n d o, HT.sIx n d o = RG.sIx n d o := fun n d o => by cases o <;> rfl
  unfold cutV cut
  simp only [e, r.length]
  exact (r.drop _).takeN _
theorem sl_all : SlR X (rSl X.K T) := by
  intro pins s σ H x v vl vu lo hi sl Q I rx hs pl pu h
  refine SlR.or sl_list sl_tupA pins s σ H x v vl vu lo hi sl Q I rx hs pl pu ?_
  obtain ⟨m, S, d, z, st, r, e, q⟩ := h
  have lists : ∀ {xs : List D}, litems S d = some xs → z = .lst (cut xs lo hi) → rSlL X.K x lo hi H Q := fun {xs} e1 e2 => by
    obtain ⟨a, ys, rfl, hq, rr⟩ := litems_rep st r e1
    subst e2
    exact ⟨a, ys, rfl, SqL.of hq, fun p hp => q _ _ (.inr ⟨p, _, hp, rfl⟩) (rep_lst st hp (cut_rep rr lo hi))⟩
  unfold slice at e
  cases d with
  | tup xs =>
    cases e
    obtain ⟨a, ys, rfl, hq, rr⟩ := r.tupD
    refine .inr ⟨a, ys, rfl, hq, fun w => ?_, fun _ p hp => q _ _ (.inr ⟨p, _, hp, rfl⟩) (rep_tup st hp (cut_rep rr lo hi))⟩
    refine q _ _ (.inl rfl) ?_
    have e2 : cut xs lo hi = xs := by
      have e : ∀ n d o, HT.sIx n d o = RG.sIx n d o := fun n d o => by cases o <;> rfl
      unfold cut
      simp only [e, rr.length] at w
      rw [w.1, w.2]
      simp
    rw [e2]
    exact r
  | scr xs =>
    cases e
    obtain ⟨a, ys, rfl, hq, rr⟩ := r.scrD
    exact .inl ⟨a, ys, rfl, hq, fun p hp => q _ _ (.inr ⟨p, _, hp, rfl⟩) (rep_lst st hp (cut_rep rr lo hi))⟩
  | lst xs =>
    simp only [litems, Option.map_some] at e
    exact .inl (lists rfl (Option.some.inj e).symm)
  | ref i =>
    replace e : (litems S (.ref i)).map (fun xs => D.lst (cut xs lo hi)) = some z := e
    cases e1 : litems S (.ref i) with
    | none => rw [e1] at e; cases e
    | some xs =>
      rw [e1] at e
      exact .inl (lists e1 (Option.some.inj e).symm)
  | _ => simp only [litems] at e; cases e
/-- one bound -/
theorem slc_end {m : List Addr} {ρ : Env} {S : Store} {σ : L2.St} {H : Hp} {Q : VK} {x : V} {d : D} {lo hi : Option Int} (s : Sim X.K T m ρ S σ H) (r : Rep X.K T m H x d)
    (h : OkR X.K T (Rep X.K T) W σ m ρ H ((slice S d lo hi).bind fun z => ret z S) Q) : rSl X.K T x lo hi H Q := by
  cases e : slice S d lo hi with
  | none => rw [e] at h; exact h.elim
  | some z =>
    rw [e] at h
    refine ⟨m, S, d, z, s.st, r, e, fun v H' bs rr => ?_⟩
    rcases bs with rfl | ⟨p, o, hp, rfl⟩
    · exact h m v _ (Grow.refl _ _) s rr
    · exact h m v _ (Grow.fresh hp) (s.beside hp) rr
theorem se_slcL {a lo : Expr} {A L0 : E} {p2 pos : Pos} (ha : PE X a ((tE X.K T P cl W) A)) (hl : PE X lo ((tE X.K T P cl W) L0)) : PE X (.Subscript a (.Slice (some lo) none none p2) pos) ((tE X.K T P cl W) (.slc A (some ()) none L0 .bad)) := by
  refine PE.imp (pe_slice (sl_all (T := T)) ha (po_some hl) po_none) ?_
  rintro σ H Q ⟨m, ρ, S, s, h⟩
  rw [ev] at h
  refine ⟨m, ρ, S, s, h.bnd fun m1 x H1 dx S1 g1 s1 r1 h1 => ⟨m1, ρ, S1, s1, OkR.bnd h1 fun m2 l H2 dl S2 g2 s2 r2 h2 => ?_⟩⟩
  cases dl with
  | int i => cases r2; exact ⟨i, rfl, slc_end s2 (r1.grow g2) h2⟩
  | _ => exact h2.elim
theorem se_slcU {a hi : Expr} {A H0 : E} {p2 pos : Pos} (ha : PE X a ((tE X.K T P cl W) A)) (hh : PE X hi ((tE X.K T P cl W) H0)) : PE X (.Subscript a (.Slice none (some hi) none p2) pos) ((tE X.K T P cl W) (.slc A none (some ()) .bad H0)) := by
  refine PE.imp (pe_slice (sl_all (T := T)) ha po_none (po_some hh)) ?_
  rintro σ H Q ⟨m, ρ, S, s, h⟩
  rw [ev] at h
  refine ⟨m, ρ, S, s, h.bnd fun m1 x H1 dx S1 g1 s1 r1 h1 => ⟨m1, ρ, S1, s1, OkR.bnd h1 fun m2 l H2 dl S2 g2 s2 r2 h2 => ?_⟩⟩
  cases dl with
  | int i => cases r2; exact ⟨i, rfl, slc_end s2 (r1.grow g2) h2⟩
  | _ => exact h2.elim
theorem se_slcLU {a lo hi : Expr} {A L0 H0 : E} {p2 pos : Pos} (ha : PE X a ((tE X.K T P cl W) A)) (hl : PE X lo ((tE X.K T P cl W) L0)) (hh : PE X hi ((tE X.K T P cl W) H0)) : PE X (.Subscript a (.Slice (some lo) (some hi) none p2) pos) ((tE X.K T P cl W) (.slc A (some ()) (some ()) L0 H0)) := by
  refine PE.imp (pe_slice (sl_all (T := T)) ha (po_some hl) (po_some hh)) ?_
  rintro σ H Q ⟨m, ρ, S, s, h⟩
  rw [ev] at h
  refine ⟨m, ρ, S, s, h.bnd fun m1 x H1 dx S1 g1 s1 r1 h1 => ⟨m1, ρ, S1, s1, OkR.bnd h1 fun m2 l H2 dl S2 g2 s2 r2 h2 => ?_⟩⟩
  cases dl with
  | int i =>
    cases r2
    refine ⟨i, rfl, m2, ρ, S2, s2, OkR.bnd h2 fun m3 w H3 dw S3 g3 s3 r3 h3 => ?_⟩
    cases dw with
    | int j => cases r3; exact ⟨j, rfl, slc_end s3 ((r1.grow g2).grow g3) h3⟩
    | _ => exact h3.elim
  | _ => exact h2.elim

/-! ### new lists -/
theorem sl_ofs {x : Str} {e : Expr} {A : E} {p pos : Pos} (hg : Gl X x) (hm : X.mg x = none) (hv : bootBuiltins x = some (.type "list")) (ha : PE X e ((tE X.K T P cl W) A)) (hn : x ≠ "__name__") (hdb : (x == ("__debug__" : Str)) = false)
    (he : starEach [e] X.env = (false, eval e X.env) :: starEach [] X.env) : PE X (.Call (.Name x p) [e] [] pos) ((tL X.K T P cl W) (.ofs A)) := by
  refine PE.imp (pe_callTy call_list_of hg hm hv (pa_cons ha pa_nil he) hn hdb he rfl) ?_
  rintro σ H Q ⟨m, ρ, S, s, h⟩
  rw [evL] at h
  refine ⟨m, ρ, S, s, h.bnd fun m1 v H1 d S1 g1 s1 r1 h1 => ?_⟩
  cases e1 : items S1 d with
  | none => rw [e1] at h1; exact h1.elim
  | some xs =>
    rw [e1] at h1
    obtain ⟨a, ys, rfl, hq, rr⟩ := items_rep s1.st r1 e1
    exact ⟨a, ys, rfl, hq, OkR.pure h1 s1 rr⟩
theorem sl_cat {a b : Expr} {A B : E} {pos : Pos} (ha : PE X a ((tE X.K T P cl W) A)) (hb : PE X b ((tE X.K T P cl W) B)) : PE X (.BinOp a .Add b pos) ((tL X.K T P cl W) (.cat A B)) := by
  refine PE.imp (pe_op op_cat ha hb) ?_
  rintro σ H Q ⟨m, ρ, S, s, h⟩
  rw [evL] at h
  refine ⟨m, ρ, S, s, h.bnd fun m1 x H1 dx S1 g1 s1 r1 h1 => ⟨m1, ρ, S1, s1, OkR.bnd h1 fun m2 y H2 dy S2 g2 s2 r2 h2 => ?_⟩⟩
  cases e1 : litems S2 dx with
  | none => rw [e1] at h2; exact h2.elim
  | some xs =>
    rw [e1] at h2
    cases e2 : litems S2 dy with
    | none => rw [e2] at h2; exact h2.elim
    | some ys =>
      rw [e2] at h2
      simp only [Option.bind_some] at h2
      split at h2
      · rename_i hl
        obtain ⟨p, us, rfl, hp, rp⟩ := litems_rep s2.st (r1.grow g2) e1
        obtain ⟨q, ws, rfl, hq, rq⟩ := litems_rep s2.st r2 e2
        have l1 := rp.length
        have l2 := rq.length
        exact ⟨p, q, us, ws, rfl, rfl, hp, hq, small2 (by omega), OkR.pure h2 s2 (rp.append rq)⟩
      · exact h2.elim
theorem sl_rep {a b : Expr} {A B : E} {pos : Pos} (ha : PE X a ((tE X.K T P cl W) A)) (hb : PE X b ((tE X.K T P cl W) B)) : PE X (.BinOp a .Mult b pos) ((tL X.K T P cl W) (.rep A B)) := by
  refine PE.imp (pe_op op_rep ha hb) ?_
  rintro σ H Q ⟨m, ρ, S, s, h⟩
  rw [evL] at h
  refine ⟨m, ρ, S, s, h.bnd fun m1 x H1 dx S1 g1 s1 r1 h1 => ⟨m1, ρ, S1, s1, OkR.bnd h1 fun m2 y H2 dy S2 g2 s2 r2 h2 => ?_⟩⟩
  cases dy with
  | int k =>
    cases r2
    simp only at h2
    cases e1 : litems S2 dx with
    | none => rw [e1] at h2; exact h2.elim
    | some xs =>
      rw [e1] at h2
      simp only [Option.bind_some] at h2
      split at h2
      · rename_i hl
        obtain ⟨p, us, rfl, hp, rp⟩ := litems_rep s2.st (r1.grow g2) e1
        have l1 := rp.length
        exact ⟨p, k, us, rfl, rfl, hp, by omega, by omega, small2 (by rw [l1]; exact hl.1), OkR.pure h2 s2 (rp.rep _)⟩
      · exact h2.elim
  | _ => exact h2.elim

/-! ### targets -/
theorem Sim.put {K : PySem.W.Frag} {m : List Addr} {ρ : Env} {S : Store} {σ : L2.St} {H : Hp} (s : Sim K T m ρ S σ H) (i : Nat) {v : V} {d : D} (r : Rep K T m H v d) : Sim K T m (ρ.set i (some d)) S (σ.set i (some v)) H where
  st := s.st
  len := by simp [s.len]
  env := fun j e h => by
    by_cases hj : i = j
    · subst hj
      by_cases hi : i < ρ.length
      · rw [List.getElem?_set_self hi] at h
        cases h
        exact ⟨v, by rw [List.getElem?_set_self (by rw [← s.len]; exact hi)], r⟩
      · rw [List.getElem?_eq_none (by simpa using hi)] at h; cases h
    · rw [List.getElem?_set_ne hj] at h
      obtain ⟨w, h1, h2⟩ := s.env j e h
      exact ⟨w, by rw [List.getElem?_set_ne hj]; exact h1, h2⟩
theorem Sim.drop {K : PySem.W.Frag} {m : List Addr} {ρ : Env} {S : Store} {σ : L2.St} {H : Hp} (s : Sim K T m ρ S σ H) (i : Nat) : Sim K T m (ρ.set i none) S (σ.set i none) H where
  st := s.st
  len := by simp [s.len]
  env := fun j e h => by
    by_cases hj : i = j
    · subst hj
      by_cases hi : i < ρ.length
      · rw [List.getElem?_set_self hi] at h; cases h
      · rw [List.getElem?_eq_none (by simpa using hi)] at h; cases h
    · rw [List.getElem?_set_ne hj] at h
      obtain ⟨w, h1, h2⟩ := s.env j e h
      exact ⟨w, by rw [List.getElem?_set_ne hj]; exact h1, h2⟩
theorem Sim.wipe {K : PySem.W.Frag} {m : List Addr} {ρ : Env} {S : Store} {σ : L2.St} {H : Hp} (s : Sim K T m ρ S σ H) : ∀ vs : List Nat, Sim K T m (RG.wipe ρ vs) S (L2.wipe σ vs) H
  | [] => s
  | i :: r => (Sim.wipe s r).drop i
mutual
def Tg.slots : Tg → List Nat
  | .name i => [i]
  | .tup ts => slotss ts
def slotss : List Tg → List Nat
  | [] => []
  | t :: ts => t.slots ++ slotss ts
end
/-- σ and σ' differ at these slots alone -/
def Near (is : List Nat) (σ σ' : L2.St) : Prop := ∀ vs : List Nat, (∀ i ∈ is, i ∈ vs) → L2.wipe σ' vs = L2.wipe σ vs
theorem Near.refl (is : List Nat) (σ : L2.St) : Near is σ σ := fun _ _ => rfl
theorem Near.trans {is js : List Nat} {σ σ1 σ2 : L2.St} (a : Near is σ σ1) (b : Near js σ1 σ2) : Near (is ++ js) σ σ2 := fun vs h =>
  (b vs fun i hi => h i (List.mem_append_right _ hi)).trans (a vs fun i hi => h i (List.mem_append_left _ hi))
theorem set_wipe (σ : L2.St) (i : Nat) (x : Option V) : ∀ vs : List Nat, L2.wipe (σ.set i x) vs = if i ∈ vs then L2.wipe σ vs else (L2.wipe σ vs).set i x
  | [] => by simp [L2.wipe]
  | v :: vs => by
    show (L2.wipe (σ.set i x) vs).set v none = if i ∈ v :: vs then (L2.wipe σ vs).set v none else ((L2.wipe σ vs).set v none).set i x
    rw [set_wipe σ i x vs]
    by_cases hv : i ∈ vs
    · simp [hv]
    · by_cases e : i = v
      · subst e
        simp [hv]
      · simp only [hv, if_false, List.mem_cons, e, or_self]
        exact List.set_comm _ _ e
theorem Near.put (σ : L2.St) (i : Nat) (x : Option V) : Near [i] σ (σ.set i x) := fun vs h => by rw [set_wipe, if_pos (h i (by simp))]
/-- a target takes a value -/
def gT (K : PySem.W.Frag) (T : Txt) (t : Tg) : TG := fun v σ H Q => ∃ m ρ S d ρ', Sim K T m ρ S σ H ∧ Rep K T m H v d ∧ bind S t d ρ = some ρ' ∧ ∀ σ', Sim K T m ρ' S σ' H → Near t.slots σ σ' → Q σ' H
def gTs (K : PySem.W.Frag) (T : Txt) (ts : List Tg) : TGs := fun vs σ H Q => ∃ m ρ S ds ρ', Sim K T m ρ S σ H ∧ Reps K T m H vs ds ∧ binds S ts ds ρ = some ρ' ∧ ∀ σ', Sim K T m ρ' S σ' H → Near (slotss ts) σ σ' → Q σ' H
theorem PG.imp {e : Expr} {g g' : TG} (h : PG X e g) (i : ∀ v σ H Q, g' v σ H Q → g v σ H Q) : PG X e g' := ⟨fun pins s σ H v u Q I r q => h.run pins s σ H v u Q I r (i _ _ _ _ q)⟩
theorem PGs.imp {e : List Expr} {g g' : TGs} (h : PGs X e g) (i : ∀ v σ H Q, g' v σ H Q → g v σ H Q) : PGs X e g' := ⟨fun pins s σ H v u Q I r q => h.run pins s σ H v u Q I r (i _ _ _ _ q)⟩
theorem sg_name {i : Nat} {x : Str} {pos : Pos} (hN : X.N.Nodup) (hi : X.N[i]? = some x) (hx : Loc X.env.scope x) (hf : X.fn x = true ∨ X.env.scope.names.lookup x = some .local) : PG X (.Name x pos) (gT X.K T (.name i)) := by
  refine PG.imp (pg_name hN hi hx hf) ?_
  rintro v σ H Q ⟨m, ρ, S, d, ρ', s, r, e, q⟩
  rw [bind] at e
  cases e
  exact q _ (s.put i r) (by rw [Tg.slots]; exact Near.put _ _ _)
theorem sgs_nil : PGs X [] (gTs X.K T []) := by
  refine PGs.imp pgs_nil ?_
  rintro v σ H Q ⟨m, ρ, S, d, ρ', s, r, e, q⟩
  cases r with
  | nil =>
    rw [binds] at e
    cases e
    exact ⟨rfl, q _ s (Near.refl _ _)⟩
  | cons _ _ => simp [binds] at e
theorem sgs_cons {e : Expr} {es : List Expr} {t : Tg} {ts : List Tg} (h1 : PG X e (gT X.K T t)) (h2 : PGs X es (gTs X.K T ts)) (hs : (assignEach (e :: es) X.env).map (·.2) = assign e X.env :: (assignEach es X.env).map (·.2)) : PGs X (e :: es) (gTs X.K T (t :: ts)) := by
  refine PGs.imp (pgs_cons h1 h2 hs) ?_
  rintro vs σ H Q ⟨m, ρ, S, ds, ρ', s, r, e, q⟩
  cases r with
  | nil => simp [binds] at e
  | cons r1 r2 =>
    rename_i v vs d ds
    rw [binds] at e
    cases e1 : bind S t d ρ with
    | none => rw [e1] at e; cases e
    | some ρ1 =>
      rw [e1] at e
      refine ⟨v, vs, rfl, m, ρ, S, d, ρ1, s, r1, e1, fun σ1 s1 n1 => ⟨m, ρ1, S, ds, ρ', s1, r2, e, fun σ2 s2 n2 => q σ2 s2 ?_⟩⟩
      rw [slotss]
      exact n1.trans n2
theorem binds_len {S : Store} : ∀ {ts : List Tg} {ds : List D} {ρ ρ' : Env}, binds S ts ds ρ = some ρ' → ds.length = ts.length
  | [], [], _, _, _ => rfl
  | [], _ :: _, _, _, h => by simp [binds] at h
  | _ :: _, [], _, _, h => by simp [binds] at h
  | t :: ts, d :: ds, ρ, ρ', h => by
    rw [binds] at h
    cases e1 : bind S t d ρ with
    | none => rw [e1] at h; cases h
    | some ρ1 =>
      rw [e1] at h
      rw [List.length_cons, List.length_cons, binds_len h]
theorem sg_tup {es : List Expr} {k : Nat} {ts : List Tg} {pos : Pos} (hc : X.calm = true) (h : PGs X es (gTs X.K T ts)) (hn : (assignEach es X.env).length = ts.length) (hst : (assignEach es X.env).findIdx? (·.1) = none) : PG X (.Tuple es k pos) (gT X.K T (.tup ts)) := by
  refine PG.imp (pg_tup hc h hn hst) ?_
  rintro v σ H Q ⟨m, ρ, S, d, ρ', s, r, e, q⟩
  cases d with
  | tup ds =>
    rw [bind] at e
    obtain ⟨a, xs, rfl, hq, rr⟩ := r.tupD
    exact ⟨a, xs, rfl, hq, by rw [rr.length, binds_len e], m, ρ, S, ds, ρ', s, rr, e, fun σ' s' n => q σ' s' (by rw [Tg.slots]; exact n)⟩
  | _ => simp [bind] at e

/-! ### what is walked -/
/-- J hands out xs, as long as the guard holds -/
def Feeds (K : PySem.W.Frag) (T : Txt) (m0 : List Addr) (H0 : Hp) (J : L2.It) (xs : List D) (g : Guard) : Prop :=
  ∀ l m S H i, Grow1 T m0 H0 m H → (∀ a ∈ l, a ∈ T.hid ∨ H0 a = none) → StOk K (T.hs l) m S H → g.ok S = true → (xs.length ≤ i → J.stop i H) ∧ ∀ d, xs[i]? = some d → J.go i H ∧ ∀ x H', J.yld i H x H' → Beside H H' ∧ Rep K (T.hs l) m H' x d
def tI (K : PySem.W.Frag) (T : Txt) (P : Prog) (cl : Nat → List D → Store → R D) (W : WX) (it : It) : TI := fun σ H Q => ∃ m ρ S, Sim K T m ρ S σ H ∧ OkR K T (fun m H (J : L2.It) (x : List D × Guard) => Feeds K T m H J x.1 x.2) W σ m ρ H (evIt P cl it ρ S) Q
theorem PI.imp {tg e : Expr} {t t' : TI} (h : PI X tg e t) (i : ∀ σ H Q, t' σ H Q → t σ H Q) : PI X tg e t' := ⟨fun pins s σ H R I q => h.run pins s σ H R I (i _ _ _ q)⟩
theorem PI.or {tg e : Expr} {t t' : TI} (h : PI X tg e t) (h' : PI X tg e t') : PI X tg e (fun σ H Q => t σ H Q ∨ t' σ H Q) := ⟨fun pins s σ H R I q => q.elim (h.run pins s σ H R I) (h'.run pins s σ H R I)⟩
section
variable {K : PySem.W.Frag} {m0 : List Addr} {H0 : Hp} {a : Addr} {xs : List D} {g : Guard}
theorem feeds_list (h : ∀ l m S H, Grow1 T m0 H0 m H → (∀ a ∈ l, a ∈ T.hid ∨ H0 a = none) → StOk K (T.hs l) m S H → g.ok S = true → ∃ vs, SqL K H a vs ∧ Reps K (T.hs l) m H vs xs) : Feeds K T m0 H0 (Itl K a) xs g := by
  intro l m S H i g1 l1 s1 k1
  obtain ⟨vs, hq, r⟩ := h l m S H g1 l1 s1 k1
  refine ⟨fun hi => ⟨vs, hq, by rw [r.length]; exact hi⟩, fun d hd => ?_⟩
  obtain ⟨v, hv, rv⟩ := r.get hd
  refine ⟨⟨vs, v, hq, hv⟩, ?_⟩
  rintro x H' ⟨rfl, hx⟩
  have := hx vs hq
  rw [hv] at this
  cases this
  exact ⟨.inl rfl, rv⟩
theorem feeds_tup (h : ∀ l m S H, Grow1 T m0 H0 m H → (∀ a ∈ l, a ∈ T.hid ∨ H0 a = none) → StOk K (T.hs l) m S H → g.ok S = true → ∃ vs, SqT K H a vs ∧ Reps K (T.hs l) m H vs xs) : Feeds K T m0 H0 (Itt K a) xs g := by
  intro l m S H i g1 l1 s1 k1
  obtain ⟨vs, hq, r⟩ := h l m S H g1 l1 s1 k1
  refine ⟨fun hi => ⟨vs, hq, by rw [r.length]; exact hi⟩, fun d hd => ?_⟩
  obtain ⟨v, hv, rv⟩ := r.get hd
  refine ⟨⟨vs, v, hq, hv⟩, ?_⟩
  rintro x H' ⟨rfl, hx⟩
  have := hx vs hq
  rw [hv] at this
  cases this
  exact ⟨.inl rfl, rv⟩
theorem enum_get {xs : List D} {i : Nat} {d : D} (h : ((xs.zipIdx).map fun p => D.tup [.int p.2, p.1])[i]? = some d) : ∃ e, xs[i]? = some e ∧ d = .tup [.int i, e] := by
  rw [List.getElem?_map, List.getElem?_zipIdx] at h
  cases e : xs[i]? with
  | none => rw [e] at h; cases h
  | some x =>
    rw [e] at h
    simp at h
    exact ⟨x, rfl, h.symm⟩
theorem feeds_enumL (h : ∀ l m S H, Grow1 T m0 H0 m H → (∀ a ∈ l, a ∈ T.hid ∨ H0 a = none) → StOk K (T.hs l) m S H → g.ok S = true → ∃ vs, SqL K H a vs ∧ Reps K (T.hs l) m H vs xs) : Feeds K T m0 H0 (Ite K a) ((xs.zipIdx).map fun p => .tup [.int p.2, p.1]) g := by
  intro l m S H i g1 l1 s1 k1
  obtain ⟨vs, hq, r⟩ := h l m S H g1 l1 s1 k1
  refine ⟨fun hi => ⟨vs, hq, by simp at hi; rw [r.length]; exact hi⟩, fun d hd => ?_⟩
  obtain ⟨e, he, rfl⟩ := enum_get hd
  obtain ⟨v, hv, rv⟩ := r.get he
  refine ⟨⟨vs, v, hq, hv⟩, ?_⟩
  rintro x H' ⟨p, y, rfl, hp, rfl, hy⟩
  have := hy vs hq
  rw [hv] at this
  cases this
  exact ⟨.inr ⟨p, _, hp, rfl⟩, rep_tup s1 hp (.cons (.int _) (.cons rv .nil))⟩
theorem feeds_enumT (h : ∀ l m S H, Grow1 T m0 H0 m H → (∀ a ∈ l, a ∈ T.hid ∨ H0 a = none) → StOk K (T.hs l) m S H → g.ok S = true → ∃ vs, SqT K H a vs ∧ Reps K (T.hs l) m H vs xs) : Feeds K T m0 H0 (ItT K a) ((xs.zipIdx).map fun p => .tup [.int p.2, p.1]) g := by
  intro l m S H i g1 l1 s1 k1
  obtain ⟨vs, hq, r⟩ := h l m S H g1 l1 s1 k1
  refine ⟨fun hi => ⟨vs, hq, by simp at hi; rw [r.length]; exact hi⟩, fun d hd => ?_⟩
  obtain ⟨e, he, rfl⟩ := enum_get hd
  obtain ⟨v, hv, rv⟩ := r.get he
  refine ⟨⟨vs, v, hq, hv⟩, ?_⟩
  rintro x H' ⟨p, y, rfl, hp, rfl, hy⟩
  have := hy vs hq
  rw [hv] at this
  cases this
  exact ⟨.inr ⟨p, _, hp, rfl⟩, rep_tup s1 hp (.cons (.int _) (.cons rv .nil))⟩
theorem feeds_revT (h : ∀ l m S H, Grow1 T m0 H0 m H → (∀ a ∈ l, a ∈ T.hid ∨ H0 a = none) → StOk K (T.hs l) m S H → g.ok S = true → ∃ vs, SqT K H a vs ∧ Reps K (T.hs l) m H vs xs) : Feeds K T m0 H0 (RT.ItvT K a xs.length) xs.reverse g := by
  intro l m S H i g1 l1 s1 k1
  obtain ⟨vs, hq, r⟩ := h l m S H g1 l1 s1 k1
  refine ⟨fun hi => (by rw [List.length_reverse] at hi; exact hi : xs.length ≤ i), fun d hd => ?_⟩
  have hi := (List.getElem?_eq_some_iff.mp hd).1
  rw [List.length_reverse] at hi
  rw [List.getElem?_reverse hi] at hd
  obtain ⟨v, hv, rv⟩ := r.get hd
  refine ⟨⟨hi, vs, v, hq, hv⟩, ?_⟩
  rintro x H' ⟨rfl, hx⟩
  have := hx vs hq
  rw [hv] at this
  cases this
  exact ⟨.inl rfl, rv⟩
theorem guard_ref {S S' : Store} {i : Nat} {c : Cell} (hc : S[i]? = some c) (k : (guardOf S (.ref i)).ok S' = true) : S'[i]? = some c := by
  have e : guardOf S (.ref i) = some (i, c) := by show (S[i]?).map _ = _; rw [hc]; rfl
  rw [e] at k
  simp only [Guard.ok, decide_eq_true_eq] at k
  exact k
theorem litems_ref {S : Store} {i : Nat} {xs : List D} (h : litems S (.ref i) = some xs) : S[i]? = some (.lst xs) := by
  have h' : (match S[i]? with | some (.lst xs) => some xs | _ => none) = some xs := h
  split at h'
  · rename_i ys e2; cases h'; exact e2
  · cases h'
/-- items at later states -/
theorem later_list {m : List Addr} {S : Store} {H : Hp} {v : V} {d : D} {xs : List D} (s : StOk K T m S H) (r : Rep K T m H v d) (h : litems S d = some xs) :
    ∃ a, v = .ref a ∧ ∀ l m' S' H', Grow1 T m H m' H' → (∀ a ∈ l, a ∈ T.hid ∨ H a = none) → StOk K (T.hs l) m' S' H' → (guardOf S d).ok S' = true → ∃ vs, SqL K H' a vs ∧ Reps K (T.hs l) m' H' vs xs := by
  cases d with
  | lst ys =>
    have e : ys = xs := by simpa [litems] using h
    subst e
    obtain ⟨a, vs, rfl, ha, rr⟩ := r.lstD
    refine ⟨a, rfl, fun l m' S' H' g hl s' k => ?_⟩
    obtain ⟨b, us, e, hb, rb⟩ := (r.later g hl).lstD
    cases e
    exact ⟨us, SqL.of hb, rb⟩
  | ref i =>
    have hS := litems_ref h
    cases r with
    | ref hm =>
      rename_i a
      refine ⟨a, rfl, fun l m' S' H' g hl s' k => ?_⟩
      obtain ⟨b, hb, q', _⟩ := s'.get (guard_ref hS k)
      have hba : b = a := by
        obtain ⟨t, et⟩ := g.pre
        have hi := (List.getElem?_eq_some_iff.mp hm).1
        rw [← et, List.getElem?_append_left hi, hm] at hb
        exact (Option.some.inj hb).symm
      subst hba
      obtain ⟨us, e, rb⟩ := q'
      exact ⟨us, SqL.of e, rb⟩
  | non => cases h
  | bl _ => cases h
  | int _ => cases h
  | str _ => cases h
  | tup _ => cases h
  | scr _ => cases h
  | obj _ _ _ => cases h
  | fn _ => cases h
theorem later_tup {m : List Addr} {H : Hp} {v : V} {xs : List D} (r : Rep K T m H v (.tup xs)) :
    ∃ a, v = .ref a ∧ ∀ l m' H', Grow1 T m H m' H' → (∀ a ∈ l, a ∈ T.hid ∨ H a = none) → ∃ vs, SqT K H' a vs ∧ Reps K (T.hs l) m' H' vs xs := by
  obtain ⟨a, vs, rfl, ha, rr⟩ := r.tupD
  refine ⟨a, rfl, fun l m' H' g hl => ?_⟩
  obtain ⟨b, us, e, hb, rb⟩ := (r.later g hl).tupD
  cases e
  exact ⟨us, hb, rb⟩
end
theorem items_cases {S : Store} {d : D} {xs : List D} (h : items S d = some xs) : d = .tup xs ∨ litems S d = some xs := by
  cases d <;> simp_all [items, litems]
theorem si_seq {tg e : Expr} {A : E} (ha : PE X e ((tE X.K T P cl W) A)) : PI X tg e ((tI X.K T P cl W) (.seq A)) := by
  refine PI.imp (PI.or (pi_list ha) (pi_tup ha)) ?_
  rintro σ H Q ⟨m, ρ, S, s, h⟩
  rw [evIt] at h
  cases e1 : ev P cl A ρ S with
  | none => rw [e1] at h; exact h.elim
  | some r => cases r with
    | ex x S1 => rw [e1] at h; exact .inl ⟨m, ρ, S, s, by rw [e1]; exact h⟩
    | ok d S1 =>
      rw [e1] at h
      simp only [RG.bnd] at h
      cases e2 : items S1 d with
      | none => rw [e2] at h; exact h.elim
      | some xs =>
        rw [e2] at h
        simp only [Option.bind_some] at h
        rcases items_cases e2 with rfl | e3
        · refine .inr ⟨m, ρ, S, s, ?_⟩
          rw [e1]
          intro m1 v H1 g1 s1 r1
          obtain ⟨a, rfl, hl⟩ := later_tup r1
          obtain ⟨vs, hq, _⟩ := hl T.hid m1 H1 (Grow.refl _ _).one fun _ z => .inl z
          exact ⟨a, rfl, ⟨vs, hq⟩, h m1 _ H1 g1 s1 (feeds_tup fun l m' S' H' g hh _ _ => hl l m' H' g hh)⟩
        · refine .inl ⟨m, ρ, S, s, ?_⟩
          rw [e1]
          intro m1 v H1 g1 s1 r1
          obtain ⟨a, xs', rfl, hq, _⟩ := litems_rep s1.st r1 e3
          obtain ⟨b, eb, hl⟩ := later_list s1.st r1 e3
          cases eb
          exact ⟨a, rfl, ⟨xs', SqL.of hq⟩, h m1 _ H1 g1 s1 (feeds_list hl)⟩
theorem si_enum {e : Expr} {A : E} {p pos tpos : Pos} {elts : List Expr} {kk : Nat} (hg : Gl X "enumerate") (hm : X.mg "enumerate" = none) (ha : PE X e ((tE X.K T P cl W) A)) (hs : starEach [e] X.env = [(false, eval e X.env)]) :
    PI X (.Tuple elts kk tpos) (.Call (.Name "enumerate" p) [e] [] pos) ((tI X.K T P cl W) (.enum A)) := by
  refine PI.imp (pi_enumA hg hm (pa_cons ha pa_nil hs) hs) ?_
  rintro σ H Q ⟨m, ρ, S, s, h⟩
  rw [evIt] at h
  refine ⟨m, ρ, S, s, h.bnd fun m1 v H1 d S1 g1 s1 r1 h1 => ?_⟩
  cases e2 : items S1 d with
  | none => rw [e2] at h1; exact h1.elim
  | some xs =>
    rw [e2] at h1
    simp only [Option.bind_some] at h1
    rcases items_cases e2 with rfl | e3
    · obtain ⟨a, rfl, hl⟩ := later_tup r1
      obtain ⟨vs, hq, _⟩ := hl T.hid m1 H1 (Grow.refl _ _).one fun _ z => .inl z
      exact ⟨a, vs, rfl, .inr ⟨hq, h1 m1 _ H1 (Grow.refl _ _) s1 (feeds_enumT fun l m' S' H' g hh _ _ => hl l m' H' g hh)⟩⟩
    · obtain ⟨a, xs', rfl, hq, _⟩ := litems_rep s1.st r1 e3
      obtain ⟨b, eb, hl⟩ := later_list s1.st r1 e3
      cases eb
      exact ⟨a, xs', rfl, .inl ⟨SqL.of hq, h1 m1 _ H1 (Grow.refl _ _) s1 (feeds_enumL hl)⟩⟩
theorem si_rev {tg e : Expr} {A : E} {p pos : Pos} (hg : Gl X "reversed") (hm : X.mg "reversed" = none) (ha : PE X e ((tE X.K T P cl W) A)) (hs : starEach [e] X.env = (false, eval e X.env) :: starEach [] X.env) :
    PI X tg (.Call (.Name "reversed" p) [e] [] pos) ((tI X.K T P cl W) (.rev A)) := by
  refine PI.imp (RT.pi_revA hg hm ha hs) ?_
  rintro σ H Q ⟨m, ρ, S, s, h⟩
  rw [evIt] at h
  refine ⟨m, ρ, S, s, h.bnd fun m1 v H1 d S1 g1 s1 r1 h1 => ?_⟩
  cases d with
  | tup xs =>
    simp only at h1
    obtain ⟨a, rfl, hl⟩ := later_tup r1
    obtain ⟨vs, hq, rr⟩ := hl T.hid m1 H1 (Grow.refl _ _).one fun _ z => .inl z
    refine ⟨a, vs, rfl, .inr ⟨hq, ?_⟩⟩
    rw [rr.length]
    exact h1 m1 _ H1 (Grow.refl _ _) s1 (feeds_revT fun l m' S' H' g hh _ _ => hl l m' H' g hh)
  | _ => exact h1.elim
theorem feeds_rng1 {K : PySem.W.Frag} {m0 : List Addr} {H0 : Hp} {lo hi : Int} : Feeds K T m0 H0 (Itr lo (hi - lo).toNat) (rng lo hi 1) none := by
  intro l m S H i g1 l1 s1 k1
  unfold rng
  simp only [if_true]
  refine ⟨fun h => (by rw [List.length_map, List.length_range] at h; exact h : (hi - lo).toNat ≤ i), fun d hd => ?_⟩
  have hi' : i < (hi - lo).toNat := by
    have := (List.getElem?_eq_some_iff.mp hd).1
    rwa [List.length_map, List.length_range] at this
  rw [List.getElem?_map, List.getElem?_range hi'] at hd
  cases hd
  have hi := hi'
  refine ⟨hi, ?_⟩
  rintro x H' ⟨rfl, rfl⟩
  exact ⟨.inl rfl, .int _⟩
theorem feeds_rngD {K : PySem.W.Frag} {m0 : List Addr} {H0 : Hp} {lo hi : Int} : Feeds K T m0 H0 (Itc lo (-1) (lo - hi).toNat) (rng lo hi (-1)) none := by
  intro l m S H i g1 l1 s1 k1
  unfold rng
  simp only [show ¬ ((-1 : Int) = 1) by decide, if_false, if_true]
  refine ⟨fun h => (by rw [List.length_map, List.length_range] at h; exact h : (lo - hi).toNat ≤ i), fun d hd => ?_⟩
  have hi' : i < (lo - hi).toNat := by
    have := (List.getElem?_eq_some_iff.mp hd).1
    rwa [List.length_map, List.length_range] at this
  rw [List.getElem?_map, List.getElem?_range hi'] at hd
  cases hd
  have hi := hi'
  refine ⟨hi, ?_⟩
  rintro x H' ⟨rfl, rfl⟩
  refine ⟨.inl rfl, ?_⟩
  have e : lo + (i : Int) * (-1) = lo - i := by omega
  rw [e]
  exact .int _
theorem si_rng1 {tg a : Expr} {A : E} {p pos : Pos} (hg : Gl X "range") (hm : X.mg "range" = none) (ha : PE X a ((tE X.K T P cl W) A)) (hs : starEach [a] X.env = [(false, eval a X.env)]) : PI X tg (.Call (.Name "range" p) [a] [] pos) ((tI X.K T P cl W) (.rng (.lit (.int 0)) A 1)) := by
  refine PI.imp (pi_range1 hg hm (pa_cons ha pa_nil hs) hs) ?_
  rintro σ H Q ⟨m, ρ, S, s, h⟩
  rw [evIt, ev] at h
  simp only [RG.bnd, RG.ret] at h
  refine ⟨m, ρ, S, s, OkR.bnd (k := fun h S => match h with | .int h => if rngOk 0 h then ret (rng 0 h 1, none) S else none | _ => none) (Rl := fun m H (J : L2.It) (x : List D × Guard) => Feeds X.K T m H J x.1 x.2) (Q := Q) (by
    cases e : ev P cl A ρ S with
    | none => rw [e] at h; exact h
    | some r => cases r with
      | ok d S1 => rw [e] at h; cases d <;> exact h
      | ex x S1 => rw [e] at h; exact h) fun m1 v H1 d S1 g1 s1 r1 h1 => ?_⟩
  cases d with
  | int j =>
    cases r1
    simp only at h1
    split at h1
    · rename_i hk
      simp only [rngOk, decide_eq_true_eq] at hk
      refine ⟨j, rfl, by omega, by omega, h1 m1 _ H1 (Grow.refl _ _) s1 ?_⟩
      have := feeds_rng1 (T := T) (K := X.K) (m0 := m1) (H0 := H1) (lo := 0) (hi := j)
      rw [show j - 0 = j by omega] at this
      exact this
    · exact h1.elim
  | _ => exact h1.elim
theorem si_rng2 {tg a b : Expr} {A B : E} {p pos : Pos} (hg : Gl X "range") (hm : X.mg "range" = none) (ha : PE X a ((tE X.K T P cl W) A)) (hb : PE X b ((tE X.K T P cl W) B)) (hs : starEach [a, b] X.env = [(false, eval a X.env), (false, eval b X.env)]) (hs2 : starEach [b] X.env = [(false, eval b X.env)]) :
    PI X tg (.Call (.Name "range" p) [a, b] [] pos) ((tI X.K T P cl W) (.rng A B 1)) := by
  refine PI.imp (pi_range2 hg hm (pa_cons ha (pa_cons hb pa_nil hs2) (by rw [hs, hs2])) hs hs2) ?_
  rintro σ H Q ⟨m, ρ, S, s, h⟩
  rw [evIt] at h
  refine ⟨m, ρ, S, s, h.bnd fun m1 v H1 d S1 g1 s1 r1 h1 => ⟨m1, ρ, S1, s1, OkR.bnd h1 fun m2 w H2 d2 S2 g2 s2 r2 h2 => ?_⟩⟩
  cases d with
  | int i =>
    cases d2 with
    | int j =>
      cases r1; cases r2
      simp only at h2
      split at h2
      · rename_i hk
        simp only [rngOk, decide_eq_true_eq] at hk
        exact ⟨i, j, rfl, by omega, h2 m2 _ H2 (Grow.refl _ _) s2 feeds_rng1⟩
      · exact h2.elim
    | _ => exact h2.elim
  | _ => exact h2.elim
/-- range(a, b, -1) -/
theorem si_rngD {tg a b : Expr} {A B : E} {p p1 p2 pos : Pos} {k : Nat} (hg : Gl X "range") (hm : X.mg "range" = none) (ha : PE X a ((tE X.K T P cl W) A)) (hb : PE X b ((tE X.K T P cl W) B))
    (hs : starEach [a, b, .UnaryOp .USub (.Constant (.int 1) k p1) p2] X.env = (false, eval a X.env) :: starEach [b, .UnaryOp .USub (.Constant (.int 1) k p1) p2] X.env)
    (hs2 : starEach [b, .UnaryOp .USub (.Constant (.int 1) k p1) p2] X.env = (false, eval b X.env) :: starEach [.UnaryOp .USub (.Constant (.int 1) k p1) p2] X.env) :
    PI X tg (.Call (.Name "range" p) [a, b, .UnaryOp .USub (.Constant (.int 1) k p1) p2] [] pos) ((tI X.K T P cl W) (.rng A B (-1))) := by
  refine PI.imp (pi_range3 hg hm (pa_cons ha (pa_cons hb (pa_cons (pe_un un_neg pe_int) pa_nil rfl) hs2) hs) hs (by rw [hs2]; rfl)) ?_
  rintro σ H Q ⟨m, ρ, S, s, h⟩
  rw [evIt] at h
  refine ⟨m, ρ, S, s, h.bnd fun m1 v H1 d S1 g1 s1 r1 h1 => ⟨m1, ρ, S1, s1, OkR.bnd h1 fun m2 w H2 d2 S2 g2 s2 r2 h2 => ?_⟩⟩
  cases d with
  | int i =>
    cases d2 with
    | int j =>
      cases r1; cases r2
      simp only at h2
      split at h2
      · rename_i hk
        simp only [rngOk, decide_eq_true_eq] at hk
        exact ⟨1, rfl, i, j, -1, (i - j).toNat, rfl, RgC.neg (by omega) (by omega) (by omega) (by omega), h2 m2 _ H2 (Grow.refl _ _) s2 feeds_rngD⟩
      · exact h2.elim
    | _ => exact h2.elim
  | _ => exact h2.elim
end
end RG
set_option Elab.async false
set_option linter.all false
set_option maxRecDepth 100000
/-! New lists and comprehensions. -/
namespace RG
open PySem PySem.Spec PyProof.Rows L2

section
variable {K : PySem.W.Frag} {T : Txt} {m m' : List Addr} {S S' : Store} {H H' : Hp} {ρ : Env} {σ : L2.St} {p : Addr}
theorem Sim.back (s : Sim K T m ρ S σ H) (g : Grow m H m' H') (st : StOk K T m' S' H') : Sim K T m' ρ S' σ H' := ⟨st, s.len, fun i d hi => let ⟨v, h1, h2⟩ := s.env i d hi; ⟨v, h1, h2.grow g⟩⟩
theorem Beside.grow (b : Beside H H') : Grow m H m H' := by
  rcases b with rfl | ⟨p, o, hp, rfl⟩
  · exact Grow.refl _ _
  · exact Grow.fresh hp
theorem Sim.bs (s : Sim K T m ρ S σ H) (b : Beside H H') : Sim K T m ρ S σ H' := by
  rcases b with rfl | ⟨p, o, hp, rfl⟩
  · exact s
  · exact s.beside hp
theorem Grow.side {o : HO} (g : Grow m H m' H') (hp : H p = none) : Grow m H m' (upd H' p o) :=
  ⟨g.pre, fun a u e n => by rw [upd_ne (ne_of_none e hp)]; exact g.keep a u e n, g.new⟩
/-- what is free now was free before -/
theorem Grow.was (g : Grow m H m' H') (s : StOk K T m' S' H') (hp : H' p = none) : H p = none := by
  cases e : H p with
  | none => rfl
  | some o =>
    by_cases hm : p ∈ m
    · obtain ⟨u, eu⟩ := s.there (g.pre.subset hm)
      rw [hp] at eu; cases eu
    · rw [g.keep p o e hm] at hp; cases hp
end
section
variable (K : PySem.W.Frag) (T : Txt) (P : Prog) (cl : Nat → List D → Store → R D) (W : WX)
/-- what makes a new list promises of the machine -/
def OkL (σ : L2.St) (m : List Addr) (ρ : Env) (H : Hp) (r : R (List D)) (Q : VK) : Prop :=
  match r with
  | some (.ok ds S) => ∀ m' D vs H', Grow m H m' H' → H D = none → Sim K (T.hide D) m' ρ S σ H' → H' D = some (.lst vs) → Reps K (T.hide D) m' H' vs ds → Q (.ref D) H'
  | some (.ex x S) => ∀ m' cls dd H', Grow m H m' H' → Sim K T m' ρ S σ H' → RepX T H' cls dd x → W cls dd σ H'
  | none => False
def tN (l : L) : TE := fun σ H Q => ∃ m ρ S, Sim K T m ρ S σ H ∧ OkL K T W σ m ρ H (evL P cl l ρ S) Q
def W0 : WX := fun _ _ _ _ => False
def gX (t : Tg) : TG := fun v σ H Q => ∃ l, gT K (T.hs l) t v σ H Q
def tX (e : E) : TT := fun σ H Q => ∃ l, tB K (T.hs l) P cl W0 e σ H Q
def eX (e : E) : TE := fun σ H Q => ∃ l, tE K (T.hs l) P cl W0 e σ H Q
def iX (it : It) : TI := fun σ H Q => ∃ l, tI K (T.hs l) P cl W0 it σ H Q
end
section
variable {X : Cx} {T : Txt} {P : Prog} {cl : Nat → List D → Store → R D} {W : WX}
theorem sn_of {e : Expr} {l : L} (h : PE X e ((tL X.K T P cl W) l)) : PE X e ((tN X.K T P cl W) l) := by
  refine PE.imp h ?_
  rintro σ H Q ⟨m, ρ, S, s, h⟩
  refine ⟨m, ρ, S, s, ?_⟩
  cases e1 : evL P cl l ρ S with
  | none => rw [e1] at h; exact h.elim
  | some r => cases r with
    | ex x S1 => rw [e1] at h; exact h
    | ok ds S1 =>
      rw [e1] at h
      intro m' vs H' g s' r p hp
      exact h m' p vs _ (g.trans (Grow.fresh hp)) (g.was s'.st hp) (s'.hide hp) upd_same (r.hide hp)
theorem frz_rd {l : L} {σ : L2.St} {H : Hp} {Q : VK} (h : (tE X.K T P cl W) (.frz l) σ H Q) : (tN X.K T P cl W) l σ H Q := by
  obtain ⟨m, ρ, S, s, h⟩ := h
  refine ⟨m, ρ, S, s, ?_⟩
  rw [ev] at h
  cases e1 : evL P cl l ρ S with
  | none => rw [e1] at h; exact h.elim
  | some r => cases r with
    | ex x S1 => rw [e1] at h; exact h
    | ok ds S1 =>
      rw [e1] at h
      intro m' D vs H' g hD s' hd r
      exact h m' _ H' g s'.unhide (.lst hd ⟨(s'.st.hid D List.mem_cons_self).2, (s.st.fresh hD).2⟩ r.unhide)
theorem own_rd {l : L} {σ : L2.St} {H : Hp} {Q : VK} (h : (tE X.K T P cl W) (.own l) σ H Q) : (tN X.K T P cl W) l σ H Q := by
  obtain ⟨m, ρ, S, s, h⟩ := h
  refine ⟨m, ρ, S, s, ?_⟩
  rw [ev] at h
  cases e1 : evL P cl l ρ S with
  | none => rw [e1] at h; exact h.elim
  | some r => cases r with
    | ex x S1 => rw [e1] at h; exact h
    | ok ds S1 =>
      rw [e1] at h
      intro m' D vs H' g hD s' hd r
      refine h (m' ++ [D]) _ H' ⟨g.pre.trans (List.prefix_append _ _), g.keep, fun a ha => ?_⟩ (s'.forth (s.st.fresh hD).2 hd r) (.ref ?_)
      · rcases List.mem_append.mp ha with z | z
        · exact g.new a z
        · have e : a = D := by simpa using z
          subst e; exact .inr hD
      · rw [← s'.st.len]; simp
theorem sf_of {e : Expr} {l : L} (h : PE X e ((tN X.K T P cl W) l)) : PE X e ((tE X.K T P cl W) (.frz l)) := PE.imp h fun _ _ _ h => frz_rd h
theorem so_of {e : Expr} {l : L} (h : PE X e ((tN X.K T P cl W) l)) : PE X e ((tE X.K T P cl W) (.own l)) := PE.imp h fun _ _ _ h => own_rd h
theorem wipe_in (σ : L2.St) (vs : List Nat) : ∀ us : List Nat, (∀ i ∈ us, i ∈ vs) → L2.wipe (L2.wipe σ us) vs = L2.wipe σ vs
  | [], _ => rfl
  | i :: us, h => by
    show L2.wipe ((L2.wipe σ us).set i none) vs = _
    rw [set_wipe, if_pos (h i List.mem_cons_self), wipe_in σ vs us fun j hj => h j (List.mem_cons_of_mem _ hj)]
theorem evIt_ok : ∀ {it : It} {ρ : Env} {S : Store} {p : List D × Guard} {S' : Store}, evIt P cl it ρ S = some (.ok p S') → p.2.ok S' = true := by
  have gr : ∀ (S : Store) (d : D), (guardOf S d).ok S = true := fun S d => by
    cases d with
    | ref i =>
      show Guard.ok ((S[i]?).map fun c => (i, c)) S = true
      cases e : S[i]? with
      | none => rfl
      | some c => simp only [Option.map_some, Guard.ok, decide_eq_true_eq]; exact e
    | _ => rfl
  intro it ρ S p S' h
  cases it with
  | seq e =>
    rw [evIt] at h
    obtain ⟨x, S1, _, h⟩ := bnd_ok h
    cases e2 : items S1 x with
    | none => rw [e2] at h; cases h
    | some xs => rw [e2] at h; cases h; exact gr _ _
  | rng a b st =>
    rw [evIt] at h
    obtain ⟨x, S1, _, h⟩ := bnd_ok h
    obtain ⟨y, S2, _, h⟩ := bnd_ok h
    cases x <;> cases y <;> simp only at h <;> try cases h
    split at h
    · cases h; rfl
    · cases h
  | enum e =>
    rw [evIt] at h
    obtain ⟨x, S1, _, h⟩ := bnd_ok h
    cases e2 : items S1 x with
    | none => rw [e2] at h; cases h
    | some xs => rw [e2] at h; cases h; exact gr _ _
  | rev e =>
    rw [evIt] at h
    obtain ⟨x, S1, _, h⟩ := bnd_ok h
    cases x <;> simp only at h <;> try cases h
    rfl
  | zip a b =>
    rw [evIt] at h
    obtain ⟨x, S1, _, h⟩ := bnd_ok h
    obtain ⟨y, S2, _, h⟩ := bnd_ok h
    cases x <;> cases y <;> simp only at h <;> try cases h
    rfl
theorem nox_ok {α : Type} {r : R α} {a : α} {S : Store} (h : nox r = some (.ok a S)) : r = some (.ok a S) := by
  cases r with
  | none => cases h
  | some r => cases r with
    | ok b S => exact h
    | ex x S => cases h
theorem gd_ok {α : Type} {g : Guard} {r : R α} {a : α} {S : Store} (h : gd g r = some (.ok a S)) : r = some (.ok a S) ∧ g.ok S = true := by
  obtain ⟨b, S1, e, h⟩ := bnd_ok h
  split at h
  · cases h; exact ⟨e, by assumption⟩
  · cases h
theorem comp_rd {own : List Nat} {tg : Tg} {it : It} {c elt : E} {σ : L2.St} {H : Hp} {Q : VK} (hsl : ∀ i ∈ tg.slots, i ∈ own) (h : (tN X.K T P cl W) (.comp own tg it c elt) σ H Q) :
    tLc (tI X.K T P cl W it) (gX X.K T tg) (tX X.K T P cl c) (eX X.K T P cl elt) own σ H Q := by
  obtain ⟨m, ρ, S, s, h⟩ := h
  rw [evL] at h
  refine ⟨m, ρ, S, s, ?_⟩
  cases e0 : evIt P cl it ρ S with
  | none => rw [e0] at h; exact h.elim
  | some r => cases r with
    | ex x S1 => rw [e0] at h; exact h
    | ok p S1 =>
      rw [e0] at h
      obtain ⟨xs, g⟩ := p
      have gk0 := evIt_ok e0
      change OkL X.K T W σ m ρ H (nox (foldR _ xs [] S1)) Q at h
      generalize hst : (fun (acc : List D) (x : D) (S : Store) => _) = step at h
      intro m1 J H1 g1 s1 feeds D hD
      cases e2 : nox (foldR step xs [] S1) with
      | none => rw [e2] at h; exact h.elim
      | some r => cases r with
        | ex x S2 =>
          exfalso
          cases e3 : foldR step xs [] S1 with
          | none => rw [e3] at e2; cases e2
          | some r => cases r <;> rw [e3] at e2 <;> cases e2
        | ok ds Sf =>
          rw [e2] at h
          have hf := nox_ok e2
          let Wv : Nat → Nat → Hp → Prop := fun i n Hh => n = xs.length - i ∧ i ≤ xs.length ∧ ∃ m' S' acc av, Grow m1 H1 m' Hh ∧ Sim X.K (T.hide D) m' ρ S' σ Hh ∧ Hh D = some (.lst av) ∧ Reps X.K (T.hide D) m' Hh av acc ∧ Guard.ok g S' = true ∧ foldR step (xs.drop i) acc S' = some (.ok ds Sf)
          have hDH : H D = none := g1.was s1.st hD
          refine ⟨Wv, ⟨xs.length, rfl, Nat.zero_le _, m1, S1, [], [], Grow.fresh hD, s1.hide hD, upd_same, .nil, gk0, hf⟩, ?_⟩
          rintro i n Hh ⟨rfl, hi, m', S', acc, av, g', s', hav, rav, gk, hfold⟩
          have nD : ∀ {m : List Addr} {S : Store} {H : Hp} {ρ : Env} {σ : L2.St}, Sim X.K (T.hide D) m ρ S σ H → D ∉ m := fun s => (s.st.hid D List.mem_cons_self).2
          have F := feeds (D :: T.hid) m' S' Hh i g'.one (fun a ha => by
            rcases List.mem_cons.mp ha with z | z
            · subst z; exact .inr hD
            · exact .inl z) s'.st gk
          cases ex : xs[i]? with
          | none =>
            have hle : xs.length ≤ i := List.getElem?_eq_none_iff.mp ex
            rw [List.drop_eq_nil_of_le hle] at hfold
            have hfold : ret acc S' = some (.ok ds Sf) := hfold
            cases hfold
            exact .inl ⟨F.1 hle, h m' D av Hh (g1.trans g') hDH s' hav rav⟩
          | some x =>
            obtain ⟨hlt, ex'⟩ := List.getElem?_eq_some_iff.mp ex
            obtain ⟨go, yl⟩ := F.2 x ex
            refine .inr ⟨go, fun H' => Wv (i + 1) (xs.length - (i + 1)) H', fun H' w => ⟨_, by omega, w⟩, fun xv H' y => ?_⟩
            obtain ⟨bs, rx⟩ := yl xv H' y
            rw [List.drop_eq_getElem_cons hlt, ex'] at hfold
            obtain ⟨acc', S2, hstep, hrest⟩ := bnd_ok (show RG.bnd (step acc x S') (fun a S => foldR step (xs.drop (i + 1)) a S) = _ from hfold)
            rw [← hst] at hstep
            simp only at hstep
            have s2' := s'.bs bs
            cases eb : bind S' tg x (RG.wipe ρ own) with
            | none => rw [eb] at hstep; cases hstep
            | some ρ2 =>
              rw [eb] at hstep
              obtain ⟨hin, gk2⟩ := gd_ok hstep
              obtain ⟨k, S3, hc, hk⟩ := bnd_ok hin
              refine ⟨D :: T.hid, m', RG.wipe ρ own, S', x, ρ2, s2'.wipe own, rx, eb, fun σ2 sb near => ⟨(near own hsl).trans (wipe_in σ own own fun _ z => z), D :: T.hid, m', ρ2, S', sb, ?_⟩⟩
              rw [hc]
              intro m3 v H3 g3 s3 r3
              cases k with
              | bl b =>
                cases r3
                refine ⟨b, rfl, ?_⟩
                have gg := (g'.trans bs.grow).trans g3
                have hav' : H3 D = some (.lst av) := g3.keep _ _ (bs.grow.keep _ _ hav (nD s')) (nD s')
                cases b with
                | true =>
                  obtain ⟨yd, S4, he, hy⟩ := bnd_ok hk
                  split at hy
                  · rename_i hlen
                    cases hy
                    simp only [if_true]
                    refine ⟨D :: T.hid, m3, ρ2, S3, s3, ?_⟩
                    rw [he]
                    intro m4 w H4 g4 s4 r4
                    have hav4 : H4 D = some (.lst av) := g4.keep _ _ hav' (nD s3)
                    have g5 := ((bs.grow (m := m')).trans g3).trans g4
                    refine ⟨av, hav4, by rw [rav.length]; exact Nat.lt_trans hlen (by decide), rfl, hlt, m4, _, acc ++ [yd], av ++ [w], (gg.trans g4).side hD, (s'.back g5 s4.st).hput, upd_same, Reps.hput ((rav.grow g5).append (.cons r4 .nil)), gk2, hrest⟩
                  · cases hy
                | false =>
                  cases hk
                  simp only [Bool.false_eq_true, if_false]
                  have g5 := (bs.grow (m := m')).trans g3
                  exact ⟨rfl, hlt, m3, _, acc, av, gg, s'.back g5 s3.st, hav', rav.grow g5, gk2, hrest⟩
              | _ => cases hk
theorem comp2_rd {own own2 : List Nat} {tg tg2 : Tg} {it it2 : It} {elt : E} {σ : L2.St} {H : Hp} {Q : VK} (hsl : ∀ i ∈ tg.slots, i ∈ own) (hsl2 : ∀ i ∈ tg2.slots, i ∈ own2) (h : (tN X.K T P cl W) (.comp2 own own2 tg it tg2 it2 elt) σ H Q) :
    tLc2 (tI X.K T P cl W it) (gX X.K T tg) tYes (iX X.K T P cl it2) (gX X.K T tg2) tYes (eX X.K T P cl elt) own own2 σ H Q := by
  obtain ⟨m, ρ, S, s, h⟩ := h
  rw [evL] at h
  refine ⟨m, ρ, S, s, ?_⟩
  cases e0 : evIt P cl it ρ S with
  | none => rw [e0] at h; exact h.elim
  | some r => cases r with
    | ex x S1 => rw [e0] at h; exact h
    | ok p S1 =>
      rw [e0] at h
      obtain ⟨xs, g⟩ := p
      have gk0 := evIt_ok e0
      change OkL X.K T W σ m ρ H (nox (foldR _ xs [] S1)) Q at h
      generalize hst : (fun (acc : List D) (x : D) (S : Store) => _) = step at h
      intro m1 J H1 g1 s1 feeds D hD
      cases e2 : nox (foldR step xs [] S1) with
      | none => rw [e2] at h; exact h.elim
      | some r => cases r with
        | ex x S2 =>
          exfalso
          cases e3 : foldR step xs [] S1 with
          | none => rw [e3] at e2; cases e2
          | some r => cases r <;> rw [e3] at e2 <;> cases e2
        | ok ds Sf =>
          rw [e2] at h
          have hf := nox_ok e2
          let Wv : Nat → Nat → Hp → Prop := fun i n Hh => n = xs.length - i ∧ i ≤ xs.length ∧ ∃ m' S' acc av, Grow m1 H1 m' Hh ∧ Sim X.K (T.hide D) m' ρ S' σ Hh ∧ Hh D = some (.lst av) ∧ Reps X.K (T.hide D) m' Hh av acc ∧ Guard.ok g S' = true ∧ foldR step (xs.drop i) acc S' = some (.ok ds Sf)
          have hDH : H D = none := g1.was s1.st hD
          refine ⟨Wv, ⟨xs.length, rfl, Nat.zero_le _, m1, S1, [], [], Grow.fresh hD, s1.hide hD, upd_same, .nil, gk0, hf⟩, ?_⟩
          rintro i n Hh ⟨rfl, hi, m', S', acc, av, g', s', hav, rav, gk, hfold⟩
          have nD : ∀ {m : List Addr} {S : Store} {H : Hp} {ρ : Env} {σ : L2.St}, Sim X.K (T.hide D) m ρ S σ H → D ∉ m := fun s => (s.st.hid D List.mem_cons_self).2
          have F := feeds (D :: T.hid) m' S' Hh i g'.one (fun a ha => by
            rcases List.mem_cons.mp ha with z | z
            · subst z; exact .inr hD
            · exact .inl z) s'.st gk
          cases ex : xs[i]? with
          | none =>
            have hle : xs.length ≤ i := List.getElem?_eq_none_iff.mp ex
            rw [List.drop_eq_nil_of_le hle] at hfold
            have hfold : ret acc S' = some (.ok ds Sf) := hfold
            cases hfold
            exact .inl ⟨F.1 hle, h m' D av Hh (g1.trans g') hDH s' hav rav⟩
          | some x =>
            obtain ⟨hlt, ex'⟩ := List.getElem?_eq_some_iff.mp ex
            obtain ⟨go, yl⟩ := F.2 x ex
            refine .inr ⟨go, fun H' => Wv (i + 1) (xs.length - (i + 1)) H', fun H' w => ⟨_, by omega, w⟩, fun xv H' y => ?_⟩
            obtain ⟨bs, rx⟩ := yl xv H' y
            rw [List.drop_eq_getElem_cons hlt, ex'] at hfold
            obtain ⟨acc', S2, hstep, hrest⟩ := bnd_ok (show RG.bnd (step acc x S') (fun a S => foldR step (xs.drop (i + 1)) a S) = _ from hfold)
            rw [← hst] at hstep
            simp only at hstep
            have s2' := s'.bs bs
            cases eb : bind S' tg x (RG.wipe ρ own) with
            | none => rw [eb] at hstep; cases hstep
            | some ρ2 =>
              rw [eb] at hstep
              obtain ⟨hin, gk2⟩ := gd_ok hstep
              obtain ⟨q, S3, hc, hk⟩ := bnd_ok hin
              obtain ⟨ys, g2⟩ := q
              have gk3 := evIt_ok hc
              dsimp only at hk
              generalize hst2 : (fun (acc : List RG.D) (y : RG.D) (S : Store) => _) = step2 at hk
              refine ⟨D :: T.hid, m', RG.wipe ρ own, S', x, ρ2, s2'.wipe own, rx, eb, fun σ2 sb near => ⟨(near own hsl).trans (wipe_in σ own own fun _ z => z), ?_⟩⟩
              simp only [tYes, if_true]
              refine ⟨D :: T.hid, m', ρ2, S', sb, ?_⟩
              rw [hc]
              intro m3 J1 H3 g3 s3 feeds2
              have hav3 : H3 D = some (.lst av) := g3.keep _ _ (bs.grow.keep _ _ hav (nD s')) (nD s')
              have g03 := (bs.grow (m := m')).trans g3
              let W1 : Nat → Nat → Hp → Prop := fun j k Hh => k = ys.length - j ∧ j ≤ ys.length ∧ ∃ m4 S4 acc4 av4, Grow m1 H1 m4 Hh ∧ Grow1 (T.hide D) m3 H3 m4 Hh ∧ Sim X.K (T.hide D) m4 ρ S4 σ Hh ∧ Sim X.K (T.hide D) m4 ρ2 S4 σ2 Hh ∧ Hh D = some (.lst av4) ∧ Reps X.K (T.hide D) m4 Hh av4 acc4 ∧ Guard.ok g2 S4 = true ∧ foldR step2 (ys.drop j) acc4 S4 = some (.ok acc' S2)
              refine ⟨W1, ⟨ys.length, rfl, Nat.zero_le _, m3, S3, acc, av, g'.trans g03, (Grow.refl _ _).one, s'.back g03 s3.st, s3, hav3, rav.grow g03, gk3, hk⟩, ?_⟩
              rintro j k Hh4 ⟨rfl, hj, m4, S4, acc4, av4, g4, g34, s4, t4, hav4, rav4, gk4, hfold4⟩
              have F2 := feeds2 (D :: T.hid) m4 S4 Hh4 j g34 (fun a ha => .inl ha) s4.st gk4
              cases ey : ys[j]? with
              | none =>
                have hle : ys.length ≤ j := List.getElem?_eq_none_iff.mp ey
                rw [List.drop_eq_nil_of_le hle] at hfold4
                have hfold4 : ret acc4 S4 = some (.ok acc' S2) := hfold4
                cases hfold4
                exact .inl ⟨F2.1 hle, rfl, hlt, m4, _, _, av4, g4, s4, hav4, rav4, gk2, hrest⟩
              | some yd =>
                obtain ⟨hlt4, ey'⟩ := List.getElem?_eq_some_iff.mp ey
                obtain ⟨go4, yl4⟩ := F2.2 yd ey
                refine .inr ⟨go4, fun H' => W1 (j + 1) (ys.length - (j + 1)) H', fun H' w => ⟨_, by omega, w⟩, fun yv H5 y5 => ?_⟩
                obtain ⟨bs5, ry⟩ := yl4 yv H5 y5
                rw [List.drop_eq_getElem_cons hlt4, ey'] at hfold4
                obtain ⟨acc5, S5, hstep5, hrest5⟩ := bnd_ok (show RG.bnd (step2 acc4 yd S4) (fun a S => foldR step2 (ys.drop (j + 1)) a S) = _ from hfold4)
                rw [← hst2] at hstep5
                simp only at hstep5
                have t5' := t4.bs bs5
                cases eb5 : bind S4 tg2 yd (RG.wipe ρ2 own2) with
                | none => rw [eb5] at hstep5; cases hstep5
                | some ρ3 =>
                  rw [eb5] at hstep5
                  obtain ⟨hin5, gk5⟩ := gd_ok hstep5
                  obtain ⟨zd, S6, he, hy⟩ := bnd_ok hin5
                  split at hy
                  · rename_i hlen
                    cases hy
                    refine ⟨D :: T.hid, m4, RG.wipe ρ2 own2, S4, yd, ρ3, t5'.wipe own2, ry, eb5, fun σ3 sb3 near3 => ⟨(near3 own2 hsl2).trans (wipe_in σ2 own2 own2 fun _ z => z), ?_⟩⟩
                    simp only [tYes, if_true]
                    refine ⟨D :: T.hid, m4, ρ3, S4, sb3, ?_⟩
                    rw [he]
                    intro m6 w H6 g6 s6 r6
                    have g46 := (bs5.grow (m := m4)).trans g6
                    have hav6 : H6 D = some (.lst av4) := g46.keep _ _ hav4 (nD s4)
                    have hD3 : H3 D ≠ none := by rw [hav3]; simp
                    refine ⟨av4, hav6, by rw [rav4.length]; exact Nat.lt_trans hlen (by decide), rfl, hlt4, m6, _, acc4 ++ [zd], av4 ++ [w], (g4.trans g46).side hD, ⟨g34.pre.trans g46.pre, fun a o e n => ?_, fun a ha => ?_⟩, (s4.back g46 s6.st).hput, (t4.back g46 s6.st).hput, upd_same, Reps.hput ((rav4.grow g46).append (.cons r6 .nil)), gk5, hrest5⟩
                    · have ne : a ≠ D := fun z => n.2 (by rw [z]; exact List.mem_cons_self)
                      rw [upd_ne ne]
                      exact g46.keep _ _ (g34.keep a o e n) (g34.notIn e n.1)
                    · rcases g46.new a ha with z | z
                      · exact g34.new a z
                      · refine .inr ?_
                        cases e7 : H3 a with
                        | none => rfl
                        | some o =>
                          by_cases hm3 : a ∈ m3
                          · obtain ⟨u, eu⟩ := s4.st.there (g34.pre.subset hm3)
                            rw [z] at eu; cases eu
                          · by_cases hd : a = D
                            · subst hd; rw [z] at hav4; cases hav4
                            · have : Outs (T.hide D) m3 a := ⟨hm3, fun w => ?_⟩
                              · have := g34.keep a o e7 this
                                rw [z] at this; cases this
                              · obtain ⟨⟨u, eu⟩, _⟩ := s4.st.hid a w
                                rw [z] at eu; cases eu
                  · cases hy
end
end RG
set_option Elab.async false
set_option linter.all false
set_option maxRecDepth 100000
/-! Statements. -/
namespace RG
open PySem PySem.Spec PyProof.Rows L2

section
variable (K : PySem.W.Frag) (T : Txt) (P : Prog) (cl : Nat → List D → Store → R D) (W : WX)
/-- what a statement's result promises of the machine -/
def OkO (m : List Addr) (H : Hp) (r : Option Out) (D : Ends) : Prop :=
  match r with
  | some (.nx ρ S) => ∀ m' σ' H', Grow m H m' H' → Sim K T m' ρ S σ' H' → D.nx σ' H'
  | some (.rt d S) => ∀ m' v H', Grow m H m' H' → StOk K T m' S H' → Rep K T m' H' v d → D.rt v H'
  | some (.ex x ρ S) => ∀ m' cls dd σ' H', Grow m H m' H' → Sim K T m' ρ S σ' H' → RepX T H' cls dd x → W cls dd σ' H'
  | some (.ct ρ S) => ∀ m' σ' H', Grow m H m' H' → Sim K T m' ρ S σ' H' → D.ct σ' H'
  | none => False
def tS (s : S) : TS := fun D σ H => ∃ m ρ S, Sim K T m ρ S σ H ∧ OkO K T W m H (exec P cl s ρ S) D
def tSs (s : Ss) : TS := fun D σ H => ∃ m ρ S, Sim K T m ρ S σ H ∧ OkO K T W m H (execs P cl s ρ S) D
end
section
variable {K : PySem.W.Frag} {T : Txt} {W : WX} {m m1 : List Addr} {H H1 : Hp} {ρ : Env} {σ : L2.St}
theorem OkO.grow {r : Option Out} {D : Ends} (g : Grow m H m1 H1) (h : OkO K T W m H r D) : OkO K T W m1 H1 r D := by
  cases r with
  | none => exact h
  | some r => cases r with
    | nx ρ S => exact fun m' σ' H' g' s => h m' σ' H' (g.trans g') s
    | rt d S => exact fun m' v H' g' s r => h m' v H' (g.trans g') s r
    | ex x ρ S => exact fun m' cls dd σ' H' g' s r => h m' cls dd σ' H' (g.trans g') s r
    | ct ρ S => exact fun m' σ' H' g' s => h m' σ' H' (g.trans g') s
/-- an expression first -/
theorem OkO.stp {r : R D} {k : D → Store → Option Out} {E : Ends} {Q1 : VK} (h : OkO K T W m H (RG.stp ρ r k) E)
    (hk : ∀ m1 v H1 d S1, Grow m H m1 H1 → Sim K T m1 ρ S1 σ H1 → Rep K T m1 H1 v d → OkO K T W m1 H1 (k d S1) E → Q1 v H1) : OkR K T (Rep K T) W σ m ρ H r Q1 := by
  cases r with
  | none => exact h.elim
  | some r => cases r with
    | ok d S => exact fun m' v H' g s rr => hk m' v H' d S g s rr (OkO.grow g h)
    | ex x S => exact fun m' cls dd H' g s rr => h m' cls dd σ H' g s rr
theorem OkO.nx {E : Ends} {S : Store} (h : OkO K T W m H (some (.nx ρ S)) E) (s : Sim K T m ρ S σ H) : E.nx σ H := h m σ H (Grow.refl _ _) s
end
section
variable {X : Cx} {T : Txt} {P : Prog} {cl : Nat → List D → Store → R D} {W : WX}
theorem PSs.imp {e : List Stmt} {t t' : TS} (h : PSs X e t) (i : ∀ D σ H, t' D σ H → t D σ H) : PSs X e t' := ⟨fun pins s σ H D I q => h.run pins s σ H D I (i D σ H q)⟩
theorem ss_bad {s : Stmt} : PS X s ((tS X.K T P cl W) .bad) := PS.bad fun D σ H ⟨m, ρ, S, _, h⟩ => h
/-! ### small statements -/
theorem set_rd {i : Nat} {A : E} {E : Ends} {σ : L2.St} {H : Hp} (h : (tS X.K T P cl W) (.set i A) E σ H) : (tE X.K T P cl W) A σ H fun x H1 => gName i x σ H1 E.nx := by
  obtain ⟨m, ρ, S, s, h⟩ := h
  rw [exec] at h
  exact ⟨m, ρ, S, s, h.stp fun m1 v H1 d S1 g1 s1 r1 h1 => h1.nx (s1.put i r1)⟩
theorem ss_set {i : Nat} {x : Str} {e : Expr} {A : E} {p pos : Pos} (hN : X.N.Nodup) (hi : X.N[i]? = some x) (hx : Loc X.env.scope x) (he : PE X e ((tE X.K T P cl W) A)) (hs : swapsWith e (some (.Name x p)) pos.line X.env = pure false) (hf : X.fn x = true ∨ X.env.scope.names.lookup x = some .local) :
    PS X (.Assign [.Name x p] e pos) ((tS X.K T P cl W) (.set i A)) := PS.imp (ps_set hN hi hx he hs hf) fun _ _ _ h => set_rd h
theorem ss_unp {tg e : Expr} {t : Tg} {A : E} {pos : Pos} (he : PE X e ((tE X.K T P cl W) A)) (hg : PG X tg (gT X.K T t)) (hs : swapsWithSole [tg] e pos.line X.env = pure false) (hw : swappedStores [tg] e X.env = pure none) (h1 : (assignEach [tg] X.env).map (·.2) = [assign tg X.env]) :
    PS X (.Assign [tg] e pos) ((tS X.K T P cl W) (.unp t A)) := by
  refine PS.imp (ps_asg he hg hs hw h1) ?_
  rintro E σ H ⟨m, ρ, S, s, h⟩
  rw [exec] at h
  refine ⟨m, ρ, S, s, h.stp fun m1 v H1 d S1 g1 s1 r1 h1 => ?_⟩
  cases e : bind S1 t d ρ with
  | none => rw [e] at h1; exact h1.elim
  | some ρ' =>
    rw [e] at h1
    exact ⟨m1, ρ, S1, d, ρ', s1, r1, e, fun σ' s' _ => h1.nx s'⟩
theorem ss_ret {e : Expr} {A : E} {pos : Pos} (he : PE X e ((tE X.K T P cl W) A)) : PS X (.Return (some e) pos) ((tS X.K T P cl W) (.ret A)) := by
  refine PS.imp (ps_ret he) ?_
  rintro E σ H ⟨m, ρ, S, s, h⟩
  rw [exec] at h
  exact ⟨m, ρ, S, s, h.stp fun m1 v H1 d S1 g1 s1 r1 h1 => h1 m1 v H1 (Grow.refl _ _) s1.st r1⟩
theorem ss_retN {pos : Pos} : PS X (.Return none pos) ((tS X.K T P cl W) .retN) := by
  refine PS.imp ps_retN ?_
  rintro E σ H ⟨m, ρ, S, s, h⟩
  rw [exec] at h
  exact h m .non H (Grow.refl _ _) s.st .non
theorem ss_pass {pos : Pos} : PS X (.Pass pos) ((tS X.K T P cl W) .pass) := by
  refine PS.imp ps_pass ?_
  rintro E σ H ⟨m, ρ, S, s, h⟩
  rw [exec] at h
  exact h.nx s
theorem ss_doc {x : Str} {j : Nat} {p pos : Pos} : PS X (.Expr (.Constant (.str x) j p) pos) ((tS X.K T P cl W) .pass) := by
  refine PS.imp ps_doc ?_
  rintro E σ H ⟨m, ρ, S, s, h⟩
  rw [exec] at h
  exact h.nx s
theorem ss_cont {pos : Pos} : PS X (.Continue pos) ((tS X.K T P cl W) .cont) := by
  refine PS.imp ps_continue ?_
  rintro E σ H ⟨m, ρ, S, s, h⟩
  rw [exec] at h
  exact h m σ H (Grow.refl _ _) s
theorem ss_expr {e : Expr} {A : E} {pos : Pos} (he : PE X e ((tE X.K T P cl W) A)) (hs : swapsWith e none pos.line X.env = pure false) : PS X (.Expr e pos) ((tS X.K T P cl W) (.expr A)) := by
  refine PS.imp (ps_expr he hs) ?_
  rintro E σ H ⟨m, ρ, S, s, h⟩
  rw [exec] at h
  exact ⟨m, ρ, S, s, h.stp fun m1 v H1 d S1 g1 s1 r1 h1 => h1.nx s1⟩
theorem ss_aug {i : Nat} {x : Str} {e : Expr} {A : E} {op : Operator} {o : Op} {f : Int → Int → Int} {p pos : Pos} (hN : X.N.Nodup) (hi : X.N[i]? = some x) (hx : Loc X.env.scope x) (he : PE X e ((tE X.K T P cl W) A)) (ho : PIp X op (ipI f)) (hf : X.fn x = true ∨ X.env.scope.names.lookup x = some .local)
    (hof : (o = .sub ∧ f = fun i j => i - j) ∨ (o = .add ∧ f = fun i j => i + j)) : PS X (.AugAssign (.Name x p) op e pos) ((tS X.K T P cl W) (.aug i o A)) := by
  refine PS.imp (ps_aug hN hi hx he ho hf) ?_
  rintro E σ H ⟨m, ρ, S, s, h⟩
  rw [exec] at h
  cases e1 : ρ[i]? with
  | none => rw [e1] at h; exact h.elim
  | some d => cases d with
    | none => rw [e1] at h; exact h.elim
    | some d =>
      cases d with
      | int k =>
        rw [e1] at h
        obtain ⟨w, hw, rw_⟩ := s.env i _ e1
        cases rw_
        refine ⟨_, hw, m, ρ, S, s, OkO.stp h fun m1 v H1 d S1 g1 s1 r1 h1 => ?_⟩
        rcases hof with ⟨rfl, rfl⟩ | ⟨rfl, rfl⟩
        · cases d <;> try exact h1.elim
          cases r1
          exact ⟨_, _, rfl, rfl, h1.nx (s1.put i (.int _))⟩
        · cases d <;> try exact h1.elim
          cases r1
          exact ⟨_, _, rfl, rfl, h1.nx (s1.put i (.int _))⟩
      | _ => rw [e1] at h; exact h.elim
theorem setAll2 {i j : Nat} {ds : List D} {ρ ρ' : Env} (h : setAll [i, j] ds ρ = some ρ') : ∃ a b, ds = [a, b] ∧ ρ' = (ρ.set i (some a)).set j (some b) := by
  match ds, h with
  | [a, b], h => cases h; exact ⟨a, b, rfl, rfl⟩
theorem setAll3 {i j k : Nat} {ds : List D} {ρ ρ' : Env} (h : setAll [i, j, k] ds ρ = some ρ') : ∃ a b c, ds = [a, b, c] ∧ ρ' = ((ρ.set i (some a)).set j (some b)).set k (some c) := by
  match ds, h with
  | [a, b, c], h => cases h; exact ⟨a, b, c, rfl, rfl⟩
theorem par_rd {is : List Nat} {A : Es} {E : Ends} {σ : L2.St} {H : Hp} (h : (tS X.K T P cl W) (.par is A) E σ H) :
    tEs X.K T P cl W A σ H fun vs H1 => ∃ m ρ S ds ρ', Sim X.K T m ρ S σ H1 ∧ Reps X.K T m H1 vs ds ∧ setAll is ds ρ = some ρ' ∧ OkO X.K T W m H1 (some (.nx ρ' S)) E := by
  obtain ⟨m, ρ, S, s, h⟩ := h
  rw [exec] at h
  refine ⟨m, ρ, S, s, ?_⟩
  cases e : evs P cl A ρ S with
  | none => rw [e] at h; exact h.elim
  | some r => cases r with
    | ex x S1 => rw [e] at h; exact fun m' cls dd H' g s rr => h m' cls dd σ H' g s rr
    | ok ds S1 =>
      rw [e] at h
      intro m1 vs H1 g1 s1 r1
      simp only at h
      cases e2 : setAll is ds ρ with
      | none => rw [e2] at h; exact h.elim
      | some ρ' =>
        rw [e2] at h
        exact ⟨m1, ρ, S1, ds, ρ', s1, r1, e2, OkO.grow g1 h⟩
theorem ss_par2 {i j : Nat} {x y : Str} {a b : Expr} {A : Es} {px py pt pos : Pos} {kt k2 : Nat} {pt2 : Pos} (hc : X.calm = true) (hN : X.N.Nodup) (hi : X.N[i]? = some x) (hj : X.N[j]? = some y) (hij : i ≠ j)
    (hx : X.env.scope.names.lookup x = some .local) (hy : X.env.scope.names.lookup y = some .local) (ha : PA X [a, b] (tEs X.K T P cl W A))
    (hw : swappedStores [.Tuple [.Name x px, .Name y py] kt pt] (.Tuple [a, b] k2 pt2) X.env = pure (some [x, y])) :
    PS X (.Assign [.Tuple [.Name x px, .Name y py] kt pt] (.Tuple [a, b] k2 pt2) pos) ((tS X.K T P cl W) (.par [i, j] A)) := by
  refine PS.imp (ps_par hc hN hi hj hij hx hy ha hw) ?_
  intro E σ H h
  obtain ⟨m0, ρ0, S0, s0, h0⟩ := par_rd h
  refine ⟨m0, ρ0, S0, s0, h0.mono ?_⟩
  rintro vs H1 ⟨m, ρ, S, ds, ρ', s, r, e, h⟩
  obtain ⟨a, b, rfl, rfl⟩ := setAll2 e
  obtain ⟨v, w, rfl, rv, rw_⟩ := reps2 r
  exact ⟨v, w, rfl, h.nx ((s.put i rv).put j rw_)⟩
theorem ss_par3 {i j l : Nat} {x y z : Str} {a b c : Expr} {A : Es} {px py pz pt pos : Pos} {kt k2 : Nat} {pt2 : Pos} (hc : X.calm = true) (hN : X.N.Nodup) (hi : X.N[i]? = some x) (hj : X.N[j]? = some y) (hl : X.N[l]? = some z) (hij : i ≠ j) (hil : i ≠ l) (hjl : j ≠ l)
    (hx : X.env.scope.names.lookup x = some .local) (hy : X.env.scope.names.lookup y = some .local) (hz : X.env.scope.names.lookup z = some .local) (ha : PA X [a, b, c] (tEs X.K T P cl W A))
    (hw : swappedStores [.Tuple [.Name x px, .Name y py, .Name z pz] kt pt] (.Tuple [a, b, c] k2 pt2) X.env = pure (some [x, y, z])) :
    PS X (.Assign [.Tuple [.Name x px, .Name y py, .Name z pz] kt pt] (.Tuple [a, b, c] k2 pt2) pos) ((tS X.K T P cl W) (.par [i, j, l] A)) := by
  refine PS.imp (ps_par3 hc hN hi hj hl hij hil hjl hx hy hz ha hw) ?_
  intro E σ H h
  obtain ⟨m0, ρ0, S0, s0, h0⟩ := par_rd h
  refine ⟨m0, ρ0, S0, s0, h0.mono ?_⟩
  rintro vs H1 ⟨m, ρ, S, ds, ρ', s, r, e, h⟩
  obtain ⟨a, b, c, rfl, rfl⟩ := setAll3 e
  cases r with
  | cons r1 r2 =>
    obtain ⟨v, w, rfl, rv, rw_⟩ := reps2 r2
    exact ⟨_, v, w, rfl, h.nx (((s.put i r1).put j rv).put l rw_)⟩

/-! ### lists that are written -/
theorem lts_set {n : Nat} {d : D} (h : d.lt n = true) : ∀ {xs : List D} {j : Nat}, D.lts n xs = true → D.lts n (xs.set j d) = true
  | [], _, q => by simpa using q
  | x :: xs, 0, q => by
    rw [D.lts, Bool.and_eq_true] at q
    rw [List.set_cons_zero, D.lts, h, q.2]; rfl
  | x :: xs, j + 1, q => by
    rw [D.lts, Bool.and_eq_true] at q
    rw [List.set_cons_succ, D.lts, q.1, lts_set h q.2]; rfl
theorem lts_append {n : Nat} : ∀ {xs ys : List D}, D.lts n xs = true → D.lts n ys = true → D.lts n (xs ++ ys) = true
  | [], _, _, q => q
  | x :: xs, ys, p, q => by
    rw [D.lts, Bool.and_eq_true] at p
    rw [List.cons_append, D.lts, p.1, lts_append p.2 q]; rfl
theorem lts_dropLast {n : Nat} : ∀ {xs : List D}, D.lts n xs = true → D.lts n xs.dropLast = true
  | [], q => q
  | [x], q => by rw [List.dropLast_singleton, D.lts]
  | x :: y :: xs, q => by
    rw [D.lts, Bool.and_eq_true] at q
    rw [List.dropLast_cons_cons, D.lts, q.1, lts_dropLast q.2]; rfl
/-- a list cell is written -/
theorem Sim.wr {m : List Addr} {ρ : Env} {S : Store} {σ : L2.St} {H : Hp} {i : Nat} {p : Addr} {vs : List V} {ds : List D} (s : Sim X.K T m ρ S σ H) (hp : m[i]? = some p) (r : Reps X.K T m H vs ds) (hl : D.lts i ds = true) :
    Sim X.K T m ρ (S.set i (.lst ds)) σ (upd H p (.lst vs)) := by
  have g : Grow m H m (upd H p (.lst vs)) := Grow.write (List.mem_of_getElem? hp)
  exact s.back g (s.st.put hp ⟨vs, upd_same, r.grow g⟩ hl)
theorem cell_lst {m : List Addr} {S : Store} {H : Hp} {i : Nat} {v : V} {xs : List D} (s : StOk X.K T m S H) (r : Rep X.K T m H v (.ref i)) (h : S[i]? = some (.lst xs)) : ∃ p vs, v = .ref p ∧ m[i]? = some p ∧ H p = some (.lst vs) ∧ Reps X.K T m H vs xs ∧ D.lts i xs = true := by
  cases r with
  | ref hm =>
    obtain ⟨a, ha, q, l⟩ := s.get h
    rw [hm] at ha
    cases ha
    obtain ⟨vs, e, rr⟩ := q
    exact ⟨_, vs, rfl, hm, e, rr, l⟩
theorem ss_sub {o i e : Expr} {O I A : E} {tpos pos : Pos} (he : PE X e ((tE X.K T P cl W) A)) (ho : PE X o ((tE X.K T P cl W) O)) (hi : PE X i ((tE X.K T P cl W) I))
    (ha : ∀ v, assign (.Subscript o i tpos) X.env v = (do
      let ov ← holding [v] (eval o X.env)
      let iv ← holding [v, ov] (eval i X.env)
      standAt tpos
      holding [v, ov, iv] (setItem ov iv v)
      release [v, ov, iv] [])) (hs : swapsWithSole [.Subscript o i tpos] e pos.line X.env = pure false) (hw : swappedStores [.Subscript o i tpos] e X.env = pure none) (h1 : (assignEach [.Subscript o i tpos] X.env).map (·.2) = [assign (.Subscript o i tpos) X.env]) :
    PS X (.Assign [.Subscript o i tpos] e pos) ((tS X.K T P cl W) (.sub O I A)) := by
  refine PS.imp (ps_asg he (pg_sub ho hi set_list ha) hs hw h1) ?_
  rintro E σ H ⟨m, ρ, S, s, h⟩
  rw [exec] at h
  refine ⟨m, ρ, S, s, h.stp fun m1 v H1 d S1 g1 s1 r1 h1 => ⟨m1, ρ, S1, s1, h1.stp fun m2 l H2 dl S2 g2 s2 r2 h2 => ⟨m2, ρ, S2, s2, h2.stp fun m3 k H3 di S3 g3 s3 r3 h3 => ?_⟩⟩⟩
  cases dl with
  | ref a =>
    cases di with
    | int j =>
      simp only at h3
      cases e1 : S3[a]? with
      | none => rw [e1] at h3; exact h3.elim
      | some c => cases c with
        | lst xs =>
          rw [e1] at h3
          simp only at h3
          split at h3
          · rename_i hlt
            cases e2 : ixN xs.length j with
            | none => rw [e2] at h3; exact h3.elim
            | some n =>
              rw [e2] at h3
              obtain ⟨p, vs, rfl, hm, hp, rr, ll⟩ := cell_lst s3.st (r2.grow g3) e1
              cases r3
              refine ⟨p, vs, j, n, rfl, rfl, hp, by rw [rr.length]; exact e2, ?_⟩
              have r1' := (r1.grow g2).grow g3
              exact h3 m3 σ _ (Grow.write (List.mem_of_getElem? hm)) (s3.wr hm (rr.set r1' n) (lts_set hlt ll))
          · exact h3.elim
        | _ => rw [e1] at h3; exact h3.elim
    | _ => exact h3.elim
  | _ => exact h3.elim
theorem ss_app {o e : Expr} {O A : E} {apos cpos pos : Pos} (ho : PE X o ((tE X.K T P cl W) O)) (he : PE X e ((tE X.K T P cl W) A)) (hbase : attributeBase o "append" X.env (eval o X.env) = eval o X.env)
    (hfew : ((backTo cpos (starEach [e] X.env)).all (fun x => !x.1) && (backToKw cpos (keywordEach [] X.env)).all (fun x => x.1.isSome)
      && decide ([e].length + ([] : List Keyword).length + (if ([] : List Keyword).isEmpty then 0 else 1) < 30)) = true)
    (hline : (apos.endLine == cpos.line) = true) (hs : starEach [e] X.env = (false, eval e X.env) :: starEach [] X.env) (hsw : swapsWith (.Call (.Attribute o "append" apos) [e] [] cpos) none pos.line X.env = pure false) :
    PS X (.Expr (.Call (.Attribute o "append" apos) [e] [] cpos) pos) ((tS X.K T P cl W) (.app O A)) := by
  refine PS.imp (ps_expr (pe_bm PySem.F.plainAttrs_list PySem.F.slot_list_append PySem.F.type_list_append mt_append ho (pa_cons he pa_nil hs) hbase hfew hline hs rfl) hsw) ?_
  rintro E σ H ⟨m, ρ, S, s, h⟩
  rw [exec] at h
  refine ⟨m, ρ, S, s, h.stp fun m1 v H1 d S1 g1 s1 r1 h1 => ?_⟩
  cases d with
  | ref a =>
    simp only at h1
    cases e0 : S1[a]? with
    | none => rw [e0] at h1; exact h1.elim
    | some c => cases c with
      | lst ys =>
        rw [e0] at h1
        simp only at h1
        obtain ⟨p, us, rfl, hm, hp0, _, _⟩ := cell_lst s1.st r1 e0
        refine ⟨.inl ⟨rfl, us, SqL.of hp0⟩, m1, ρ, S1, s1, h1.stp fun m2 x H2 dx S2 g2 s2 r2 h2 => ?_⟩
        cases e1 : S2[a]? with
        | none => rw [e1] at h2; exact h2.elim
        | some c => cases c with
          | lst xs =>
            rw [e1] at h2
            simp only at h2
            split at h2
            · rename_i hlt
              simp only [Bool.and_eq_true, decide_eq_true_eq] at hlt
              obtain ⟨q, vs, eq, hm2, hp, rr, ll⟩ := cell_lst s2.st (r1.grow g2) e1
              cases eq
              refine ⟨p, vs, x, rfl, rfl, hp, by rw [rr.length]; exact Nat.lt_trans hlt.2 (by decide), ?_⟩
              exact h2 m2 σ _ (Grow.write (List.mem_of_getElem? hm2)) (s2.wr hm2 (rr.append (.cons r2 .nil)) (lts_append ll (by rw [D.lts, hlt.1, D.lts]; rfl)))
            · exact h2.elim
          | _ => rw [e1] at h2; exact h2.elim
      | _ => rw [e0] at h1; exact h1.elim
  | _ => exact h1.elim
theorem ss_ext {o e : Expr} {O A : E} {apos cpos pos : Pos} (ho : PE X o ((tE X.K T P cl W) O)) (he : PE X e ((tE X.K T P cl W) A)) (hbase : attributeBase o "extend" X.env (eval o X.env) = eval o X.env)
    (hfew : ((backTo cpos (starEach [e] X.env)).all (fun x => !x.1) && (backToKw cpos (keywordEach [] X.env)).all (fun x => x.1.isSome)
      && decide ([e].length + ([] : List Keyword).length + (if ([] : List Keyword).isEmpty then 0 else 1) < 30)) = true)
    (hline : (apos.endLine == cpos.line) = true) (hs : starEach [e] X.env = (false, eval e X.env) :: starEach [] X.env) (hsw : swapsWith (.Call (.Attribute o "extend" apos) [e] [] cpos) none pos.line X.env = pure false) :
    PS X (.Expr (.Call (.Attribute o "extend" apos) [e] [] cpos) pos) ((tS X.K T P cl W) (.ext O A)) := by
  refine PS.imp (ps_expr (pe_bm PySem.F.plainAttrs_list PySem.F.slot_list_extend PySem.F.type_list_extend mt_extend ho (pa_cons he pa_nil hs) hbase hfew hline hs rfl) hsw) ?_
  rintro E σ H ⟨m, ρ, S, s, h⟩
  rw [exec] at h
  refine ⟨m, ρ, S, s, h.stp fun m1 v H1 d S1 g1 s1 r1 h1 => ?_⟩
  cases d with
  | ref a =>
    simp only at h1
    cases e0 : S1[a]? with
    | none => rw [e0] at h1; exact h1.elim
    | some c => cases c with
      | lst ys =>
        rw [e0] at h1
        simp only at h1
        obtain ⟨p, us, rfl, hm, hp0, _, _⟩ := cell_lst s1.st r1 e0
        refine ⟨.inl ⟨rfl, us, SqL.of hp0⟩, m1, ρ, S1, s1, h1.stp fun m2 x H2 dx S2 g2 s2 r2 h2 => ?_⟩
        cases e1 : S2[a]? with
        | none => rw [e1] at h2; exact h2.elim
        | some c => cases c with
          | lst xs =>
            rw [e1] at h2
            cases dx with
            | lst zs =>
              simp only at h2
              split at h2
              · rename_i hlt
                simp only [Bool.and_eq_true, decide_eq_true_eq] at hlt
                obtain ⟨q, vs, eq, hm2, hp, rr, ll⟩ := cell_lst s2.st (r1.grow g2) e1
                cases eq
                obtain ⟨b, ws, rfl, hb, rb⟩ := r2.lstD
                refine ⟨p, b, vs, ws, rfl, rfl, hp, hb, by rw [rr.length, rb.length]; exact small2 hlt.2, ?_⟩
                exact h2 m2 σ _ (Grow.write (List.mem_of_getElem? hm2)) (s2.wr hm2 (rr.append rb) (lts_append ll hlt.1))
              · exact h2.elim
            | _ => exact h2.elim
          | _ => rw [e1] at h2; cases dx <;> exact h2.elim
      | _ => rw [e0] at h1; exact h1.elim
  | _ => exact h1.elim
theorem ss_pop {o : Expr} {O : E} {apos cpos pos : Pos} (ho : PE X o ((tE X.K T P cl W) O)) (hbase : attributeBase o "pop" X.env (eval o X.env) = eval o X.env)
    (hline : (apos.endLine == cpos.line) = true) (hsw : swapsWith (.Call (.Attribute o "pop" apos) [] [] cpos) none pos.line X.env = pure false) :
    PS X (.Expr (.Call (.Attribute o "pop" apos) [] [] cpos) pos) ((tS X.K T P cl W) (.pop O)) := by
  refine PS.imp (ps_expr (pe_bm0 PySem.F.plainAttrs_list PySem.F.slot_list_pop PySem.F.type_list_pop mt_pop ho hbase hline) hsw) ?_
  rintro E σ H ⟨m, ρ, S, s, h⟩
  rw [exec] at h
  refine ⟨m, ρ, S, s, h.stp fun m1 v H1 d S1 g1 s1 r1 h1 => ?_⟩
  cases d with
  | ref a =>
    simp only at h1
    cases e0 : S1[a]? with
    | none => rw [e0] at h1; exact h1.elim
    | some c => cases c with
      | lst ys =>
        rw [e0] at h1
        simp only at h1
        obtain ⟨p, us, rfl, hm, hp0, rr, ll⟩ := cell_lst s1.st r1 e0
        split at h1
        · rename_i hpos
          refine ⟨.inl ⟨rfl, us, SqL.of hp0⟩, ?_⟩
          have hl := rr.length
          refine ⟨p, us, us[us.length - 1], rfl, rfl, hp0, by simp, ?_⟩
          exact h1 m1 σ _ (Grow.write (List.mem_of_getElem? hm)) (s1.wr hm rr.dropLast (lts_dropLast ll))
        · exact h1.elim
      | _ => rw [e0] at h1; exact h1.elim
  | _ => exact h1.elim

/-! ### self.f = e, in __init__ -/
theorem putF_new {f : Str} {v : V} : ∀ {fs : List (Str × V)}, fs.lookup f = none → putF f v fs = fs ++ [(f, v)]
  | [], _ => rfl
  | (g, x) :: r, h => by
    by_cases e : g = f
    · subst e
      rw [List.lookup_cons_self] at h; cases h
    · have hb : (f == g) = false := beq_eq_false_iff_ne.mpr fun z => e z.symm
      rw [List.lookup_cons, hb] at h
      show (if g = f then (g, v) :: r else (g, x) :: putF f v r) = _
      rw [if_neg e, putF_new h]
      rfl
theorem RepF.snoc {m : List Addr} {H : Hp} {k : Nat} {v : V} {d : D} (r : Rep X.K T m H v d) : ∀ {fs : List (Str × V)} {ks : List Nat} {ds : List D}, RepF X.K T m H fs ks ds → RepF X.K T m H (fs ++ [(T.att k, v)]) (ks ++ [k]) (ds ++ [d])
  | _, _, _, .nil => .cons r .nil
  | _, _, _, .cons h q => .cons h (RepF.snoc r q)
theorem RepF.len {m : List Addr} {H : Hp} : ∀ {fs : List (Str × V)} {ks : List Nat} {ds : List D}, RepF X.K T m H fs ks ds → fs.length = ks.length
  | _, _, _, .nil => rfl
  | _, _, _, .cons _ q => by rw [List.length_cons, List.length_cons, RepF.len q]
theorem ss_setf {o e : Expr} {A : E} {f : Nat} {p2 pos : Pos} (ho : PE X o ((tE X.K T P cl W) (.var 0))) (he : PE X e ((tE X.K T P cl W) A)) (hc : ∀ c, P.fok c f = true → Cls X.K (T.cls c) ∧ NoAttr X.K (T.cls c) (T.att f)) (hs : swapsWith e (some (.Attribute o (T.att f) p2)) pos.line X.env = pure false) :
    PS X (.Assign [.Attribute o (T.att f) p2] e pos) ((tS X.K T P cl W) (.setf f A)) := by
  refine PS.imp (ps_fld ho he hs) ?_
  rintro E σ H ⟨m, ρ, S, s, h⟩
  rw [exec] at h
  refine ⟨m, ρ, S, s, h.stp fun m1 v H1 d S1 g1 s1 r1 h1 => ?_⟩
  split at h1
  · rename_i a e1
    split at h1
    · rename_i c ks vs e2
      split at h1
      · rename_i hk
        simp only [Bool.and_eq_true, Bool.not_eq_true', decide_eq_true_eq] at hk
        obtain ⟨⟨⟨⟨hf, hlt⟩, hnk⟩, hl⟩, h50⟩ := hk
        refine ⟨m1, ρ, S1, s1, ?_⟩
        rw [ev, e1]
        intro m2 x H2 g2 s2 r2
        cases r2 with
        | ref hm =>
          obtain ⟨p, hp, q, ll⟩ := s2.st.get e2
          rw [hm] at hp
          cases hp
          obtain ⟨dx, fs, hx, rf⟩ := q
          obtain ⟨c1, c2⟩ := hc c hf
          refine ⟨_, _, dx, fs, rfl, hx, c1, c2, by rw [rf.len]; omega, ?_⟩
          rw [putF_new (repF_none rf hnk)]
          have g3 : Grow m2 H2 m2 (upd H2 _ (.ins (T.cls c) dx (fs ++ [(T.att f, v)]))) := Grow.write (List.mem_of_getElem? hm)
          exact h1 m2 σ _ (g2.trans g3) (s2.back g3 (s2.st.put hm ⟨dx, _, upd_same, RepF.snoc ((r1.grow g2).grow g3) (rf.grow g3)⟩ (lts_append ll (by rw [D.lts, hlt, D.lts]; rfl))))
      · exact h1.elim
    · exact h1.elim
  · exact h1.elim

/-! ### blocks -/
theorem sss_nil : PSs X [] ((tSs X.K T P cl W) .nil) := by
  refine PSs.imp pss_nil ?_
  rintro E σ H ⟨m, ρ, S, s, h⟩
  rw [execs] at h
  exact h.nx s
theorem sss_cons {st : Stmt} {rest : List Stmt} {a : S} {b : Ss} (h1 : PS X st ((tS X.K T P cl W) a)) (h2 : PSs X rest ((tSs X.K T P cl W) b)) : PSs X (st :: rest) ((tSs X.K T P cl W) (.cons a b)) := by
  refine PSs.imp (pss_cons h1 h2) ?_
  rintro E σ H ⟨m, ρ, S, s, h⟩
  rw [execs] at h
  refine ⟨m, ρ, S, s, ?_⟩
  cases e : exec P cl a ρ S with
  | none => rw [e] at h; exact h.elim
  | some r =>
    rw [e] at h
    cases r with
    | nx ρ1 S1 => exact fun m' σ' H' g s' => ⟨m', ρ1, S1, s', OkO.grow g h⟩
    | rt d S1 => exact h
    | ex x ρ1 S1 => exact h
    | ct ρ1 S1 => exact h
theorem ss_if {c : Expr} {a b : List Stmt} {C : E} {A B : Ss} {pos : Pos} (hc : PT X c ((tB X.K T P cl W) C)) (ha : PSs X a ((tSs X.K T P cl W) A)) (hb : PSs X b ((tSs X.K T P cl W) B)) : PS X (.If c a b pos) ((tS X.K T P cl W) (.ife C A B)) := by
  refine PS.imp (ps_if hc ha hb) ?_
  rintro E σ H ⟨m, ρ, S, s, h⟩
  rw [exec] at h
  refine ⟨m, ρ, S, s, h.stp fun m1 v H1 d S1 g1 s1 r1 h1 => ?_⟩
  cases d with
  | bl k =>
    cases r1
    cases k with
    | true => exact ⟨true, rfl, by simp only [if_true]; exact ⟨m1, ρ, S1, s1, h1⟩⟩
    | false => exact ⟨false, rfl, by simp only [Bool.false_eq_true, if_false]; exact ⟨m1, ρ, S1, s1, h1⟩⟩
  | _ => exact h1.elim
theorem ss_while {c : Expr} {body : List Stmt} {C : E} {B : Ss} {pos : Pos} (hp : PassesOwn (model X.prog X.w) X.A X.env X.xe) (hc : PT X c ((tB X.K T P cl W) C)) (hb : PSs X body ((tSs X.K T P cl W) B)) : PS X (.While c body [] pos) ((tS X.K T P cl W) (.whl C B)) := by
  refine PS.imp (ps_while hp hc hb) ?_
  rintro E σ H ⟨m, ρ, S, s, h⟩
  rw [exec] at h
  generalize hf : (fun (ρS : Env × Store) => _) = f at h
  cases e : loop f (ρ, S) with
  | none => rw [e] at h; exact h.elim
  | some r =>
    rw [e] at h
    obtain ⟨n0, hn0⟩ := loop_eq.mp e
    refine ⟨fun n σ' H' => ∃ m' ρ' S', Grow m H m' H' ∧ Sim X.K T m' ρ' S' σ' H' ∧ iter f n (ρ', S') = some r, ⟨n0, m, ρ, S, Grow.refl _ _, s, hn0⟩, ?_⟩
    rintro n σ' H' ⟨m', ρ', S', g', s', hn⟩
    cases n with
    | zero => cases hn
    | succ n =>
      rw [iter] at hn
      refine ⟨m', ρ', S', s', ?_⟩
      rw [← hf] at hn
      simp only at hn
      rw [hf] at hn
      cases ec : ev P cl C ρ' S' with
      | none => rw [ec] at hn; cases hn
      | some rc => cases rc with
        | ex x S1 =>
          rw [ec] at hn
          simp only [Option.some.injEq] at hn
          rw [← hn] at h
          exact fun m1 cls dd H1 g1 s1 r1 => h m1 cls dd σ' H1 (g'.trans g1) s1 r1
        | ok d S1 =>
          rw [ec] at hn
          intro m1 v H1 g1 s1 r1
          cases d with
          | bl k =>
            cases r1
            cases k with
            | false =>
              simp only [Option.some.injEq] at hn
              rw [← hn] at h
              exact ⟨false, rfl, by simp only [Bool.false_eq_true, if_false]; exact h m1 σ' H1 (g'.trans g1) s1⟩
            | true =>
              refine ⟨true, rfl, ?_⟩
              simp only [if_true]
              refine ⟨fun σ2 H2 => ∃ m2 ρ2 S2, Grow m H m2 H2 ∧ Sim X.K T m2 ρ2 S2 σ2 H2 ∧ iter f n (ρ2, S2) = some r, fun σ2 H2 w => ⟨n, Nat.lt_succ_self n, w⟩, m1, ρ', S1, s1, ?_⟩
              have gg := g'.trans g1
              simp only at hn
              cases eb : execs P cl B ρ' S1 with
              | none => rw [eb] at hn; cases hn
              | some rb =>
                rw [eb] at hn
                cases rb with
                | nx ρ2 S2 => exact fun m2 σ2 H2 g2 s2 => ⟨m2, ρ2, S2, gg.trans g2, s2, hn⟩
                | ct ρ2 S2 => exact fun m2 σ2 H2 g2 s2 => ⟨m2, ρ2, S2, gg.trans g2, s2, hn⟩
                | rt d S2 =>
                  simp only [Option.some.injEq] at hn
                  rw [← hn] at h
                  exact fun m2 v H2 g2 s2 r2 => h m2 v H2 (gg.trans g2) s2 r2
                | ex x ρ2 S2 =>
                  simp only [Option.some.injEq] at hn
                  rw [← hn] at h
                  exact fun m2 cls dd σ2 H2 g2 s2 r2 => h m2 cls dd σ2 H2 (gg.trans g2) s2 r2
          | _ => cases hn
theorem ss_for {tg iter : Expr} {body : List Stmt} {t : Tg} {it : It} {B : Ss} {pos : Pos} (hp : PassesOwn (model X.prog X.w) X.A X.env X.xe) (hc : X.calm = true) (hi : PI X tg iter (tI X.K T P cl W it)) (hg : PG X tg (gT X.K T t)) (hb : PSs X body ((tSs X.K T P cl W) B))
    (hs : ∀ x, foldedSetIterable iter X.env x = pure x) : PS X (.For tg iter body [] pos) ((tS X.K T P cl W) (.for_ t it B)) := by
  refine PS.imp (ps_for hp hc hi hg hb hs) ?_
  rintro E σ H ⟨m, ρ, S, s, h⟩
  rw [exec] at h
  refine ⟨m, ρ, S, s, ?_⟩
  cases e : evIt P cl it ρ S with
  | none => rw [e] at h; exact h.elim
  | some r => cases r with
    | ex x S1 => rw [e] at h; exact fun m' cls dd H' g s rr => h m' cls dd σ H' g s rr
    | ok p S1 =>
      obtain ⟨xs, g⟩ := p
      have gk0 := evIt_ok e
      rw [e] at h
      simp only at h
      generalize hbd : (fun (ρ : Env) (S : Store) => execs P cl B ρ S) = body' at h
      intro m1 J H1 g1 s1 feeds
      refine ⟨fun i n σ' H' => n = xs.length - i ∧ i ≤ xs.length ∧ ∃ m' ρ' S', Grow m1 H1 m' H' ∧ Sim X.K T m' ρ' S' σ' H' ∧ Guard.ok g S' = true ∧ OkO X.K T W m' H' (forGo t g body' (xs.drop i) ρ' S') E, ⟨xs.length, rfl, Nat.zero_le _, m1, ρ, S1, Grow.refl _ _, s1, gk0, OkO.grow g1 h⟩, ?_⟩
      rintro i n σ' H' ⟨rfl, hi, m', ρ', S', g', s', gk, hfold⟩
      have F := feeds T.hid m' S' H' i g'.one (fun a ha => .inl ha) s'.st gk
      cases ex : xs[i]? with
      | none =>
        have hle : xs.length ≤ i := List.getElem?_eq_none_iff.mp ex
        rw [List.drop_eq_nil_of_le hle, forGo] at hfold
        exact .inl ⟨F.1 hle, hfold.nx s'⟩
      | some x =>
        obtain ⟨hlt, ex'⟩ := List.getElem?_eq_some_iff.mp ex
        obtain ⟨go, yl⟩ := F.2 x ex
        refine .inr ⟨go, fun σ2 H2 => ∃ m2 ρ2 S2, Grow m1 H1 m2 H2 ∧ Sim X.K T m2 ρ2 S2 σ2 H2 ∧ Guard.ok g S2 = true ∧ OkO X.K T W m2 H2 (forGo t g body' (xs.drop (i + 1)) ρ2 S2) E, fun σ2 H2 w => ⟨xs.length - (i + 1), by omega, rfl, hlt, w⟩, fun xv H2 y => ?_⟩
        obtain ⟨bs, rx⟩ := yl xv H2 y
        rw [List.drop_eq_getElem_cons hlt, ex', forGo] at hfold
        cases eb : bind S' t x ρ' with
        | none => rw [eb] at hfold; exact hfold.elim
        | some ρ2 =>
          rw [eb] at hfold
          simp only at hfold
          refine ⟨m', ρ', S', x, ρ2, s'.bs bs, rx, eb, fun σ2 sb near => ⟨m', ρ2, S', sb, ?_⟩⟩
          have hfold := OkO.grow (bs.grow (m := m')) hfold
          rw [← hbd] at hfold
          simp only at hfold
          rw [hbd] at hfold
          have gg := g'.trans (bs.grow (m := m'))
          cases er : execs P cl B ρ2 S' with
          | none => rw [er] at hfold; exact hfold.elim
          | some r =>
            rw [er] at hfold
            cases r with
            | nx ρ3 S3 =>
              simp only at hfold
              split at hfold
              · rename_i gk3
                exact fun m3 σ3 H3 g3 s3 => ⟨m3, ρ3, S3, gg.trans g3, s3, gk3, OkO.grow g3 hfold⟩
              · exact hfold.elim
            | ct ρ3 S3 =>
              simp only at hfold
              split at hfold
              · rename_i gk3
                exact fun m3 σ3 H3 g3 s3 => ⟨m3, ρ3, S3, gg.trans g3, s3, gk3, OkO.grow g3 hfold⟩
              · exact hfold.elim
            | rt d S3 => exact hfold
            | ex x ρ3 S3 => exact hfold
/-! ### comprehensions -/
theorem PG.some {ι : Type} {e : Expr} {t : ι → TG} (h : ∀ i, PG X e (t i)) : PG X e (fun v σ H Q => ∃ i, t i v σ H Q) := ⟨fun pins s σ H v u Q I r ⟨i, q⟩ => (h i).run pins s σ H v u Q I r q⟩
theorem PTs.some {ι : Type} {e : List Expr} {t : ι → TT} (h : ∀ i, PTs X e (t i)) : PTs X e (fun σ H Q => ∃ i, t i σ H Q) := ⟨fun pins s σ H Q I ⟨i, q⟩ => (h i).run pins s σ H Q I q⟩
theorem PI.some {ι : Type} {tg e : Expr} {t : ι → TI} (h : ∀ i, PI X tg e (t i)) : PI X tg e (fun σ H Q => ∃ i, t i σ H Q) := ⟨fun pins s σ H R I ⟨i, q⟩ => (h i).run pins s σ H R I q⟩
theorem PTs.imp {e : List Expr} {t t' : TT} (h : PTs X e t) (i : ∀ σ H Q, t' σ H Q → t σ H Q) : PTs X e t' := ⟨fun pins s σ H Q I q => h.run pins s σ H Q I (i _ _ _ q)⟩
theorem yes_rd {σ : L2.St} {H : Hp} {Q : Bool → Hp → Prop} (h : tX X.K T P cl (.lit (.bl true)) σ H Q) : tYes σ H Q := by
  obtain ⟨l, m, ρ, S, s, h⟩ := h
  rw [ev] at h
  obtain ⟨b, e, q⟩ := h m (.bl true) H (Grow.refl _ _) s (.bl _)
  cases e
  exact q
/-- what a comprehension's parts keep -/
structure Comp1 (X : Cx) (T : Txt) (P : Prog) (cl : Nat → List D → Store → R D) (scope : Scope) (tg : Expr) (ifs : List Expr) (elt : Expr) (t : Tg) (c e : E) : Prop where
  hg : ∀ (l : List Addr) (s : Shared) (H : Hp) (C : Addr) (cs : List (Str × Addr)) (fp : List Addr), PG (X.blk s H scope (compEnvC scope cs C X.env) fp) tg (gT X.K (T.hs l) t)
  ht : ∀ (l : List Addr) (s : Shared) (H : Hp) (C : Addr) (cs : List (Str × Addr)) (fp : List Addr), PTs (X.blk s H scope (compEnvC scope cs C X.env) fp) ifs (tB X.K (T.hs l) P cl W0 c)
  he : ∀ (l : List Addr) (s : Shared) (H : Hp) (C : Addr) (cs : List (Str × Addr)) (fp : List Addr), PE (X.blk s H scope (compEnvC scope cs C X.env) fp) elt (tE X.K (T.hs l) P cl W0 e)
theorem sn_comp {elt tg iter : Expr} {ifs : List Expr} {scope : Scope} {own : List (Str × Nat)} {pos : Pos} {it : It} {t : Tg} {c e : E} (hc : X.calm = true) (hN : X.N.Nodup) (hi : PI X tg iter (tI X.K T P cl W it)) (ok : BlkOk X.N X.env.scope scope own) (hsl : ∀ i ∈ t.slots, i ∈ own.map (·.2))
    (C : Comp1 X T P cl scope tg ifs elt t c e) (hs : ∀ x, foldedSetIterable iter X.env x = pure x) :
    PE X (.ListComp elt [⟨tg, iter, ifs, 0⟩] scope pos) (tN X.K T P cl W (.comp (own.map (·.2)) t it c e)) :=
  PE.imp (pe_lc hc hN hi ok (g := gX X.K T t) (tt := tX X.K T P cl c) (te := eX X.K T P cl e) (fun s H C' cs fp => PG.some fun l => C.hg l s H C' cs fp) (fun s H C' cs fp => PTs.some fun l => C.ht l s H C' cs fp) (fun s H C' cs fp => PE.some fun l => C.he l s H C' cs fp) hs) fun _ _ _ h => comp_rd hsl h
/-- name = [..] in one step -/
theorem ss_setC {i : Nat} {y : Str} {py : Pos} {elt tg iter : Expr} {ifs : List Expr} {scope : Scope} {own : List (Str × Nat)} {pos spos : Pos} {it : It} {t : Tg} {c e A : E} (hc : X.calm = true) (hN : X.N.Nodup) (hy : X.N[i]? = some y) (hyl : X.env.scope.names.lookup y = some .local)
    (hsw : swapsWith (.ListComp elt [⟨tg, iter, ifs, 0⟩] scope pos) (some (.Name y py)) spos.line X.env = pure true) (hi : PI X tg iter (tI X.K T P cl W it)) (ok : BlkOk X.N X.env.scope scope own) (hsl : ∀ i ∈ t.slots, i ∈ own.map (·.2))
    (C : Comp1 X T P cl scope tg ifs elt t c e) (hs : ∀ x, foldedSetIterable iter X.env x = pure x) (hA : A = .frz (.comp (own.map (·.2)) t it c e) ∨ A = .own (.comp (own.map (·.2)) t it c e)) :
    PS X (.Assign [.Name y py] (.ListComp elt [⟨tg, iter, ifs, 0⟩] scope pos) spos) ((tS X.K T P cl W) (.set i A)) := by
  refine PS.imp (ps_setLc hc hN hy hyl hsw hi ok (g := gX X.K T t) (tt := tX X.K T P cl c) (te := eX X.K T P cl e) (fun s H C' cs fp => PG.some fun l => C.hg l s H C' cs fp) (fun s H C' cs fp => PTs.some fun l => C.ht l s H C' cs fp) (fun s H C' cs fp => PE.some fun l => C.he l s H C' cs fp) hs) ?_
  intro E σ H h
  have h := set_rd h
  rcases hA with rfl | rfl
  · exact comp_rd hsl (frz_rd h)
  · exact comp_rd hsl (own_rd h)
structure Comp2 (X : Cx) (T : Txt) (P : Prog) (cl : Nat → List D → Store → R D) (scope : Scope) (tg tg2 iter2 elt : Expr) (t t2 : Tg) (it2 : It) (e : E) : Prop where
  hg : ∀ (l : List Addr) (s : Shared) (H : Hp) (C : Addr) (cs : List (Str × Addr)) (fp : List Addr), PG (X.blk s H scope (compEnvC scope cs C X.env) fp) tg (gT X.K (T.hs l) t)
  hi : ∀ (l : List Addr) (s : Shared) (H : Hp) (C : Addr) (cs : List (Str × Addr)) (fp : List Addr), PI (X.blk s H scope (compEnvC scope cs C X.env) fp) tg2 iter2 (tI X.K (T.hs l) P cl W0 it2)
  hg2 : ∀ (l : List Addr) (s : Shared) (H : Hp) (C : Addr) (cs : List (Str × Addr)) (fp : List Addr), PG (X.blk s H scope (compEnvC scope cs C X.env) fp) tg2 (gT X.K (T.hs l) t2)
  he : ∀ (l : List Addr) (s : Shared) (H : Hp) (C : Addr) (cs : List (Str × Addr)) (fp : List Addr), PE (X.blk s H scope (compEnvC scope cs C X.env) fp) elt (tE X.K (T.hs l) P cl W0 e)
theorem sn_comp2 {elt tg iter tg2 iter2 : Expr} {scope : Scope} {own : List (Str × Nat)} {own2 : List Nat} {pos : Pos} {it it2 : It} {t t2 : Tg} {e : E} (hc : X.calm = true) (hN : X.N.Nodup) (hi : PI X tg iter (tI X.K T P cl W it)) (ok : BlkOk X.N X.env.scope scope own) (hv : ∀ i ∈ own2, i ∈ own.map (·.2)) (hsl : ∀ i ∈ t.slots, i ∈ own.map (·.2)) (hsl2 : ∀ i ∈ t2.slots, i ∈ own2)
    (C : Comp2 X T P cl scope tg tg2 iter2 elt t t2 it2 e) (hs : ∀ x, foldedSetIterable iter X.env x = pure x) (hs2 : ∀ env x, foldedSetIterable iter2 env x = pure x) :
    PE X (.ListComp elt [⟨tg, iter, [], 0⟩, ⟨tg2, iter2, [], 0⟩] scope pos) (tN X.K T P cl W (.comp2 (own.map (·.2)) own2 t it t2 it2 e)) :=
  PE.imp (pe_lc2 hc hN hi ok hv (g := gX X.K T t) (tt := tYes) (wi1 := iX X.K T P cl it2) (g1 := gX X.K T t2) (tt1 := tYes) (te := eX X.K T P cl e) (fun s H C' cs fp => PG.some fun l => C.hg l s H C' cs fp) (fun s H C' cs fp => pts_nil) (fun s H C' cs fp => PI.some fun l => C.hi l s H C' cs fp) (fun s H C' cs fp => PG.some fun l => C.hg2 l s H C' cs fp) (fun s H C' cs fp => pts_nil) (fun s H C' cs fp => PE.some fun l => C.he l s H C' cs fp) hs hs2) fun _ _ _ h => comp2_rd hsl hsl2 h
theorem ss_setC2 {i : Nat} {y : Str} {py : Pos} {elt tg iter tg2 iter2 : Expr} {scope : Scope} {own : List (Str × Nat)} {own2 : List Nat} {pos spos : Pos} {it it2 : It} {t t2 : Tg} {e A : E} (hc : X.calm = true) (hN : X.N.Nodup) (hy : X.N[i]? = some y) (hyl : X.env.scope.names.lookup y = some .local)
    (hsw : swapsWith (.ListComp elt [⟨tg, iter, [], 0⟩, ⟨tg2, iter2, [], 0⟩] scope pos) (some (.Name y py)) spos.line X.env = pure true) (hi : PI X tg iter (tI X.K T P cl W it)) (ok : BlkOk X.N X.env.scope scope own) (hv : ∀ i ∈ own2, i ∈ own.map (·.2)) (hsl : ∀ i ∈ t.slots, i ∈ own.map (·.2)) (hsl2 : ∀ i ∈ t2.slots, i ∈ own2)
    (C : Comp2 X T P cl scope tg tg2 iter2 elt t t2 it2 e) (hs : ∀ x, foldedSetIterable iter X.env x = pure x) (hs2 : ∀ env x, foldedSetIterable iter2 env x = pure x) (hA : A = .frz (.comp2 (own.map (·.2)) own2 t it t2 it2 e) ∨ A = .own (.comp2 (own.map (·.2)) own2 t it t2 it2 e)) :
    PS X (.Assign [.Name y py] (.ListComp elt [⟨tg, iter, [], 0⟩, ⟨tg2, iter2, [], 0⟩] scope pos) spos) ((tS X.K T P cl W) (.set i A)) := by
  refine PS.imp (ps_setLc2 hc hN hy hyl hsw hi ok hv (g := gX X.K T t) (tt := tYes) (wi1 := iX X.K T P cl it2) (g1 := gX X.K T t2) (tt1 := tYes) (te := eX X.K T P cl e) (fun s H C' cs fp => PG.some fun l => C.hg l s H C' cs fp) (fun s H C' cs fp => pts_nil) (fun s H C' cs fp => PI.some fun l => C.hi l s H C' cs fp) (fun s H C' cs fp => PG.some fun l => C.hg2 l s H C' cs fp) (fun s H C' cs fp => pts_nil) (fun s H C' cs fp => PE.some fun l => C.he l s H C' cs fp) hs hs2) ?_
  intro E σ H h
  have h := set_rd h
  rcases hA with rfl | rfl
  · exact comp2_rd hsl hsl2 (frz_rd h)
  · exact comp2_rd hsl hsl2 (own_rd h)
end
end RG
set_option Elab.async false
set_option linter.all false
set_option maxRecDepth 100000
/-! Is this term of the small language a reading of that text? A check, and that it is enough. -/
namespace RG
open PySem PySem.Spec PyProof.Rows L2

inductive GK where
  | fn (f : Nat) | cls (c : Nat) | no | bi (id : String)
structure Tab where
  N : List Str
  gk : List (Str × GK)
  att : List Str
/-- a scope as it is met, and as it is written -/
structure Sv where
  sc : Scope
  so : Scope
def rel (scope sc : Scope) : Scope :=
  { scope with names := scope.names.map fun (n, k) => if (k == .free && sc.kind == .function && sc.names.lookup n == some .cell) then (n, .cell) else (n, k) }
inductive Qy where
  | e (e : Expr) (A : E)
  | es (es : List Expr) (A : Es)
  | l (e : Expr) (l : L)
  | it (tg : Expr) (e : Expr) (it : It)
  | t (e : Expr) (A : E)
  | b (op : BoolOp) (es : List Expr) (A : E)
  | w (op : BoolOp) (es : List Expr) (A : E)

def GkOk (X : Cx) (T : Txt) : GK → Str → Prop
  | .fn f, x => X.mg x = some (.ref (T.fad f))
  | .cls c, x => X.mg x = some (.ref (T.cls c))
  | .no, x => X.mg x = none
  | .bi id, x => X.mg x = some (.builtin id)
/-- where code is read -/
structure Good (t : Tab) (P : Prog) (cl : Nat → List D → Store → R D) (k : Nat) (X : Cx) (T : Txt) (W : WX) (sc : Sv) : Prop where
  hN : X.N = t.N
  nd : t.N.Nodup
  dbg : ∀ x ∈ t.N, (x == ("__debug__" : Str)) = false ∧ (x == ("__classdict__" : Str)) = false
  scp : X.env.scope = sc.sc
  fnk : ∀ x, sc.so.names.lookup x = some .cell → X.fn x = true ∧ sc.sc.names.lookup x = some .cell
  lok : ∀ x, sc.so.names.lookup x = some .local → sc.sc.names.lookup x = some .local
  calm : X.calm = true
  tk : Takes X W
  room : Room (k + 1) X.A
  gl : ∀ x g, t.gk.lookup x = some g → GkOk X T g x ∧ x ≠ "__name__" ∧ (x == ("__debug__" : Str)) = false
  fn : ∀ x f, t.gk.lookup x = some (.fn f) → FnAt X T cl k f
  me : ∀ m, MethAt X T P cl k m
  ini : ∀ x c, t.gk.lookup x = some (.cls c) → ∃ f, P.init c = some f ∧ Mk X.K (T.cls c) (T.fad f) ∧ FnAt X T cl k f
  fl : ∀ c f, P.fok c f = true → Cls X.K (T.cls c) ∧ NoAttr X.K (T.cls c) (T.att f)
  at_ : ∀ i x, t.att[i]? = some x → T.att i = x
/-- what a check promises -/
def Snd (t : Tab) (P : Prog) (cl : Nat → List D → Store → R D) (k : Nat) (sc : Sv) : Qy → Prop
  | .e e A => ∀ X T W, Good t P cl k X T W sc → PE X e (tE X.K T P cl W A)
  | .es es A => ∀ X T W, Good t P cl k X T W sc → PA X es (tEs X.K T P cl W A)
  | .l e l => ∀ X T W, Good t P cl k X T W sc → PE X e (tN X.K T P cl W l)
  | .it tg e it => ∀ X T W, Good t P cl k X T W sc → PI X tg e (tI X.K T P cl W it)
  | .t e A => ∀ X T W, Good t P cl k X T W sc → PT X e (tB X.K T P cl W A)
  | .b op es A => ∀ X T W pos, Good t P cl k X T W sc → PE X (.BoolOp op es pos) (tE X.K T P cl W A)
  | .w op es A => ∀ X T W pos, Good t P cl k X T W sc → PW X (.BoolOp op es pos) (tB X.K T P cl W A)

/-! ### what the text's forms are -/
def isStar : Expr → Bool
  | .Starred _ _ => true
  | _ => false
def noStars (es : List Expr) : Bool := es.all fun e => !isStar e
def isSet : Expr → Bool
  | .Set _ _ _ => true
  | _ => false
def isSlice : Expr → Bool
  | .Slice _ _ _ _ => true
  | _ => false
def isComp : Expr → Bool
  | .ListComp _ _ _ _ => true
  | .SetComp _ _ _ _ => true
  | .DictComp _ _ _ _ _ => true
  | _ => false
def isTup : Expr → Bool
  | .Tuple _ _ _ => true
  | _ => false
def testVal : Expr → Bool
  | .UnaryOp .Not _ _ => false
  | .BoolOp _ _ _ => false
  | .IfExp _ _ _ _ => false
  | .Compare _ _ _ _ => false
  | _ => true
def noSuper : Expr → Bool
  | .Call (.Name id _) [] [] _ => id != "super"
  | _ => true
theorem star_cons {e : Expr} {es : List Expr} {env : PySem.Env} (h : isStar e = false) : starEach (e :: es) env = (false, eval e env) :: starEach es env := by
  cases e <;> first | rfl | cases h
theorem stars_plain {env : PySem.Env} {pos : Pos} : ∀ {es : List Expr}, noStars es = true → (backTo pos (starEach es env)).any (·.1) = false
  | [], _ => rfl
  | e :: es, h => by
    unfold noStars at h
    rw [List.all_cons, Bool.and_eq_true, Bool.not_eq_true'] at h
    rw [star_cons h.1]
    show (false || (backTo pos (starEach es env)).any (·.1)) = false
    rw [stars_plain (by unfold noStars; exact h.2)]
    rfl
theorem stars_all {env : PySem.Env} {pos : Pos} : ∀ {es : List Expr}, noStars es = true → (backTo pos (starEach es env)).all (fun x => !x.1) = true
  | [], _ => rfl
  | e :: es, h => by
    unfold noStars at h
    rw [List.all_cons, Bool.and_eq_true, Bool.not_eq_true'] at h
    rw [star_cons h.1]
    show (true && (backTo pos (starEach es env)).all (fun x => !x.1)) = true
    rw [stars_all (by unfold noStars; exact h.2)]
    rfl
theorem few_ok {env : PySem.Env} {pos : Pos} {es : List Expr} (h : noStars es = true) (hl : es.length < 30) : methodCallForm (es.length + 0) (backTo pos (starEach es env)) [] = true := by
  unfold methodCallForm
  rw [stars_all h]
  simp [hl]
theorem noset {e : Expr} {env : PySem.Env} (h : isSet e = false) : ∀ x, foldedSetIterable e env x = pure x := by
  cases e <;> first | (intro _; rfl) | cases h
theorem nomarks {op : CmpOp} {e : Expr} (h : isSet e = false) : behindInMarks op e = false := by
  cases e <;> first | rfl | cases h
theorem plainIx {e : Expr} (h : isSlice e = false) : PlainIx e := by
  cases e <;> first | (intro _ _; rfl) | cases h
theorem testV {e : Expr} {env : PySem.Env} (h : testVal e = true) : ∀ whole, isTrue e env whole = (do let v ← whole; standAt e.pos; holding [v] (truthy v)) := by
  cases e <;> first | (intro _; rfl) | (cases h; done) | skip
  rename_i op a pos
  cases op <;> first | (intro _; rfl) | cases h
theorem superN {o : Expr} {attr : Str} {env : PySem.Env} (h : noSuper o = true) : attributeBase o attr env (eval o env) = eval o env := by
  unfold attributeBase
  split
  · rename_i id p pos
    have h' : (id != "super") = true := h
    rw [h']
    simp
  · rfl
theorem comp_no {e : Expr} {tg : Option Expr} {l : Nat} {env : PySem.Env} (h : isComp e = false) : swapsWith e tg l env = pure false := by
  cases e <;> first | rfl | cases h
theorem comp_not {e tg : Expr} {l : Nat} {env : PySem.Env} (h : ∀ x p, tg ≠ .Name x p) : swapsWith e (some tg) l env = pure false := by
  cases e <;> first | rfl | skip
  all_goals (cases tg <;> first | rfl | exact absurd rfl (h _ _))

/-! ### operators -/
def opB : Operator → Op → Bool
  | .Add, .add => true
  | .Sub, .sub => true
  | .Mult, .mul => true
  | .FloorDiv, .fdv => true
  | .Mod, .mod => true
  | _, _ => false
def opC : CmpOp → Op → Bool
  | .Eq, .eq => true
  | .NotEq, .ne => true
  | .Lt, .lt => true
  | .LtE, .le => true
  | .Gt, .gt => true
  | .GtE, .ge => true
  | _, _ => false
theorem opB_ok {X : Cx} {T : Txt} {op : Operator} {o : Op} (h : opB op o = true) : OpR X (binaryOp op) (rBin X.K T o) := by
  cases op <;> cases o <;> first | (cases h; done) | exact bin_add | exact bin_sub | exact bin_mul | exact bin_fdv | exact bin_mod
theorem opC_ok {X : Cx} {T : Txt} {op : CmpOp} {o : Op} {k : Nat} (hr : Room k X.A) (h : opC op o = true) : OpR X (compareOp op) (rBin X.K T o) := by
  have hu : X.A.units + 64 < cLine := by have := hr.un; omega
  cases op <;> cases o <;> first | (cases h; done) | exact cmp_eq hu | exact cmp_ne hu | exact cmp_lt | exact cmp_le | exact cmp_gt | exact cmp_ge
def litB : Const → D → Bool
  | .int i, .int j => decide (i = j)
  | .bool b, .bl c => b == c
  | .str x, .str y => decide (x = y)
  | .none, .non => true
  | _, _ => false

/-! ### the check -/
def gkFn : Option GK → Nat → Bool
  | some (.fn f), g => decide (f = g)
  | _, _ => false
def gkCls : Option GK → Nat → Bool
  | some (.cls f), g => decide (f = g)
  | _, _ => false
def gkNo : Option GK → Bool
  | some .no => true
  | _ => false
def gkBi : Option GK → String → Bool
  | some (.bi i), j => decide (i = j)
  | _, _ => false
def visB (sc : Scope) (x : Str) : Bool := match sc.names.lookup x with
  | some .local => true
  | some .cell => true
  | some .free => true
  | _ => false
def locB (sc : Scope) (x : Str) : Bool := match sc.names.lookup x with
  | some .local => true
  | some .cell => true
  | _ => false
def lcl (sc : Scope) (x : Str) : Bool := match sc.names.lookup x with
  | some .local => true
  | _ => false
def glB (sc : Scope) (x : Str) : Bool := match sc.names.lookup x with
  | some .globalImplicit => true
  | _ => false
section
variable (t : Tab)
def ckName (sc : Sv) (x : Str) : E → Bool
  | .var i => decide (t.N[i]? = some x) && visB sc.sc x
  | _ => false
/-- a built-in of this name -/
def biB : BI → Str → Bool
  | .len, x => x == "len"
  | .abs, x => x == "abs"
  | .max, x => x == "max"
  | .min, x => x == "min"
  | .all, x => x == "all"
  | .any, x => x == "any"
  | _, _ => false
def biT : BI → Str → Bool
  | .int, x => x == "int"
  | .tuple, x => x == "tuple"
  | _, _ => false
def tyB : Nat → Str → Bool
  | 0, x => x == "int"
  | 1, x => x == "bool"
  | 2, x => x == "str"
  | 3, x => x == "tuple"
  | 4, x => x == "list"
  | _, _ => false
def argsOk (es : List Expr) : Bool := match es with
  | [] => false
  | e :: es => !isStar e && noStars es
def ckCall (r : Sv → Qy → Bool) (sc : Sv) (x : Str) (es : List Expr) : E → Bool
  | .call f A => glB sc.sc x && gkFn (t.gk.lookup x) f && (match es, A with
    | [], .nil => true
    | [], _ => false
    | es, A => argsOk es && r sc (.es es A))
  | .mk c A => glB sc.sc x && gkCls (t.gk.lookup x) c && argsOk es && r sc (.es es A)
  | .bi .gcd A => glB sc.sc x && gkBi (t.gk.lookup x) "math.gcd" && argsOk es && r sc (.es es A)
  | .bi (.isT ts) A => x == "isinstance" && glB sc.sc x && gkNo (t.gk.lookup x) && (match es, A, ts with
    | [e, .Name n _], .cons A .nil, [k] => !isStar e && tyB k n && glB sc.sc n && gkNo (t.gk.lookup n) && r sc (.e e A)
    | [e, .Tuple [.Name n _, .Name n2 _] _ _], .cons A .nil, [3, 4] => !isStar e && n == "tuple" && n2 == "list" && glB sc.sc n && gkNo (t.gk.lookup n) && glB sc.sc n2 && gkNo (t.gk.lookup n2) && r sc (.e e A)
    | _, _, _ => false)
  | .bi b A => glB sc.sc x && gkNo (t.gk.lookup x) && (biB b x || biT b x) && argsOk es && r sc (.es es A)
  | _ => false
def ckMeth (r : Sv → Qy → Bool) (sc : Sv) (o : Expr) (name : Str) (apos pos : Pos) (es : List Expr) : E → Bool
  | .meth O m A => decide (t.att[m]? = some name) && noSuper o && (apos.endLine == pos.line) && noStars es && decide (es.length < 30) && r sc (.e o O) && (match es, A with
    | [], .nil => true
    | [], _ => false
    | es, A => r sc (.es es A))
  | _ => false
def ckCmp (r : Sv → Qy → Bool) (sc : Sv) (a : Expr) (ops : List CmpOp) (bs : List Expr) (A : E) : Bool :=
  match ops, bs, A with
  | [op], [b], .bin o A B => opC op o && !isSet b && r sc (.e a A) && r sc (.e b B)
  | [.Is], [.Constant .none _ _], .isN false A => r sc (.e a A)
  | [.IsNot], [.Constant .none _ _], .isN true A => r sc (.e a A)
  | [.In], [b], .inn false A B => !isSet b && r sc (.e a A) && r sc (.e b B)
  | [.NotIn], [b], .inn true A B => !isSet b && r sc (.e a A) && r sc (.e b B)
  | [op, op'], [b, c], .chain o1 o2 A B C => opC op o1 && opC op' o2 && !isSet c && r sc (.e a A) && r sc (.e b B) && r sc (.e c C)
  | _, _, _ => false
def ckSlice (r : Sv → Qy → Bool) (sc : Sv) (a : Expr) (lo hi st : Option Expr) : E → Bool
  | .slc A l h L0 H0 => match lo, hi, st, l, h, L0, H0 with
    | some lo, none, none, some (), none, L0, .bad => r sc (.e a A) && r sc (.e lo L0)
    | none, some hi, none, none, some (), .bad, H0 => r sc (.e a A) && r sc (.e hi H0)
    | some lo, some hi, none, some (), some (), L0, H0 => r sc (.e a A) && r sc (.e lo L0) && r sc (.e hi H0)
    | _, _, _, _, _, _, _ => false
  | _ => false
def ckE (r : Sv → Qy → Bool) (sc : Sv) (e : Expr) (A : E) : Bool :=
  match A with
  | .bad => true
  | .frz l => r sc (.l e l)
  | .own l => r sc (.l e l)
  | A => match e with
    | .Name x _ => ckName t sc x A
    | .Constant c _ _ => match A with
      | .lit d => litB c d
      | _ => false
    | .BinOp a op b _ => match A with
      | .bin o A B => opB op o && r sc (.e a A) && r sc (.e b B)
      | _ => false
    | .UnaryOp .USub a _ => match A with
      | .neg A => r sc (.e a A)
      | _ => false
    | .UnaryOp .Not a _ => match A with
      | .not A => r sc (.e a A)
      | _ => false
    | .Compare a ops bs _ => ckCmp r sc a ops bs A
    | .BoolOp op es _ => r sc (.b op es A)
    | .IfExp c a b _ => match A with
      | .ite C A B => r sc (.t c C) && r sc (.e a A) && r sc (.e b B)
      | _ => false
    | .Tuple es _ _ => match A with
      | .tup A => decide (A.len ≤ 1000) && r sc (.es es A)
      | _ => false
    | .Subscript a (.Slice lo hi st _) _ => ckSlice r sc a lo hi st A
    | .Subscript a b _ => match A with
      | .idx A B => !isSlice b && r sc (.e a A) && r sc (.e b B)
      | _ => false
    | .Call (.Name x _) es [] _ => ckCall t r sc x es A
    | .Call (.Attribute o name apos) es [] pos => ckMeth t r sc o name apos pos es A
    | .Attribute o name _ => match A with
      | .fld O f => decide (t.att[f]? = some name) && noSuper o && r sc (.e o O)
      | _ => false
    | _ => false
def ckB (r : Sv → Qy → Bool) (sc : Sv) (op : BoolOp) : List Expr → E → Bool
  | [a], A => r sc (.e a A)
  | a :: b :: es, .and A B => decide (op = .And) && r sc (.e a A) && r sc (.b op (b :: es) B)
  | a :: b :: es, .or A B => decide (op = .Or) && r sc (.e a A) && r sc (.b op (b :: es) B)
  | _, _ => false
def ckW (r : Sv → Qy → Bool) (sc : Sv) (op : BoolOp) : List Expr → E → Bool
  | [a], A => r sc (.t a A)
  | a :: b :: es, .and A B => decide (op = .And) && r sc (.t a A) && r sc (.w op (b :: es) B)
  | a :: b :: es, .or A B => decide (op = .Or) && r sc (.t a A) && r sc (.w op (b :: es) B)
  | _, _ => false
def ckT (r : Sv → Qy → Bool) (sc : Sv) (e : Expr) (A : E) : Bool :=
  match A with
  | .bad => true
  | A => match e with
    | .Compare a ops bs _ => ckCmp r sc a ops bs A
    | .BoolOp op es _ => r sc (.w op es A)
    | .UnaryOp .Not a _ => match A with
      | .not A => r sc (.t a A)
      | _ => false
    | e => testVal e && r sc (.e e A)
def ckEs (r : Sv → Qy → Bool) (sc : Sv) : List Expr → Es → Bool
  | [], .nil => true
  | e :: es, .cons A B => !isStar e && r sc (.e e A) && r sc (.es es B)
  | _, _ => false
mutual
def ckTg (sc : Sv) : Tg → Expr → Bool
  | .name i, .Name x _ => decide (t.N[i]? = some x) && locB sc.so x
  | .tup ts, .Tuple es _ _ => noStars es && ckTgs sc ts es
  | _, _ => false
def ckTgs (sc : Sv) : List Tg → List Expr → Bool
  | [], [] => true
  | t :: ts, e :: es => ckTg sc t e && ckTgs sc ts es
  | _, _ => false
end
/-- the slots of a block's own names -/
def ownOf (scope : Scope) (is : List Nat) : Option (List (Str × Nat)) := is.mapM fun i => (t.N[i]?).map fun x => (x, i)
def subset (xs ys : List Nat) : Bool := xs.all fun i => ys.contains i
def ckL (r : Sv → Qy → Bool) (sc : Sv) (e : Expr) (l : L) : Bool :=
  match l, e with
  | .disp A, .List es _ => decide (A.len ≤ 1000) && r sc (.es es A)
  | .ofs A, .Call (.Name x _) [e] [] _ => x == "list" && glB sc.sc x && gkNo (t.gk.lookup x) && !isStar e && r sc (.e e A)
  | .cat A B, .BinOp a .Add b _ => r sc (.e a A) && r sc (.e b B)
  | .rep A B, .BinOp a .Mult b _ => r sc (.e a A) && r sc (.e b B)
  | .comp is tg it c elt, .ListComp e [⟨tge, iter, ifs, 0⟩] scope _ => (match ownOf t scope is with
    | none => false
    | some own => blkC t.N sc.sc scope own && subset tg.slots (own.map (·.2)) && !isSet iter && r sc (.it tge iter it) && ckTg t ⟨rel scope sc.sc, scope⟩ tg tge && r ⟨rel scope sc.sc, scope⟩ (.e e elt) && (match ifs, c with
      | [], .lit (.bl true) => true
      | [i], c => r ⟨rel scope sc.sc, scope⟩ (.t i c)
      | _, _ => false))
  | .comp2 is is2 tg it tg2 it2 elt, .ListComp e [⟨tge, iter, [], 0⟩, ⟨tge2, iter2, [], 0⟩] scope _ => (match ownOf t scope is with
    | none => false
    | some own => blkC t.N sc.sc scope own && subset is2 (own.map (·.2)) && subset tg.slots (own.map (·.2)) && subset tg2.slots is2 && !isSet iter && !isSet iter2 && r sc (.it tge iter it) && ckTg t ⟨rel scope sc.sc, scope⟩ tg tge && r ⟨rel scope sc.sc, scope⟩ (.it tge2 iter2 it2) && ckTg t ⟨rel scope sc.sc, scope⟩ tg2 tge2 && r ⟨rel scope sc.sc, scope⟩ (.e e elt))
  | _, _ => false
def ckIt (r : Sv → Qy → Bool) (sc : Sv) (tg e : Expr) (it : It) : Bool :=
  match it with
  | .seq A => r sc (.e e A)
  | .enum A => match tg, e with
    | .Tuple _ _ _, .Call (.Name x _) [e] [] _ => x == "enumerate" && glB sc.sc x && gkNo (t.gk.lookup x) && !isStar e && r sc (.e e A)
    | _, _ => false
  | .rev A => match e with
    | .Call (.Name x _) [e] [] _ => x == "reversed" && glB sc.sc x && gkNo (t.gk.lookup x) && !isStar e && r sc (.e e A)
    | _ => false
  | .rng A B st => match e, A, st with
    | .Call (.Name x _) [e] [] _, .lit (.int 0), 1 => x == "range" && glB sc.sc x && gkNo (t.gk.lookup x) && !isStar e && r sc (.e e B)
    | .Call (.Name x _) [a, b] [] _, A, 1 => x == "range" && glB sc.sc x && gkNo (t.gk.lookup x) && !isStar a && !isStar b && r sc (.e a A) && r sc (.e b B)
    | .Call (.Name x _) [a, b, .UnaryOp .USub (.Constant (.int 1) _ _) _] [] _, A, -1 => x == "range" && glB sc.sc x && gkNo (t.gk.lookup x) && !isStar a && !isStar b && r sc (.e a A) && r sc (.e b B)
    | _, _, _ => false
  | _ => false
def ck : Nat → Sv → Qy → Bool
  | 0, _, _ => false
  | n + 1, sc, q => match q with
    | .e e A => ckE t (ck n) sc e A
    | .es es A => ckEs (ck n) sc es A
    | .l e l => ckL t (ck n) sc e l
    | .it tg e it => ckIt t (ck n) sc tg e it
    | .t e A => ckT (ck n) sc e A
    | .b op es A => ckB (ck n) sc op es A
    | .w op es A => ckW (ck n) sc op es A
end
end RG
set_option Elab.async false
set_option linter.all false
set_option maxRecDepth 100000
set_option maxHeartbeats 2000000
/-! The check of expressions is enough. -/
namespace RG
open PySem PySem.Spec PyProof.Rows L2

section
variable {t : Tab} {P : Prog} {cl : Nat → List D → Store → R D} {k : Nat} {X : Cx} {T : Txt} {W : WX} {sc : Sv}
theorem Good.vis (g : Good t P cl k X T W sc) {x : Str} (h : visB sc.sc x = true) : Vis X.env.scope x := by
  rw [g.scp]
  unfold visB at h
  unfold Vis
  split at h
  · rename_i e; exact .inl e
  · rename_i e; exact .inr (.inl e)
  · rename_i e; exact .inr (.inr e)
  · cases h
theorem Good.loc (g : Good t P cl k X T W sc) {x : Str} (h : locB sc.so x = true) : L2.Loc X.env.scope x ∧ (X.fn x = true ∨ X.env.scope.names.lookup x = some .local) := by
  rw [g.scp]
  unfold locB at h
  unfold L2.Loc
  split at h
  · rename_i e; exact ⟨.inl (g.lok x e), .inr (g.lok x e)⟩
  · rename_i e; exact ⟨.inr (g.fnk x e).2, .inl (g.fnk x e).1⟩
  · cases h
theorem Good.glo (g : Good t P cl k X T W sc) {x : Str} (h : glB sc.sc x = true) : Gl X x := by
  unfold Gl PySem.Env.kindOf
  rw [g.scp]
  unfold glB at h
  split at h
  · rename_i e; exact e
  · cases h
theorem Good.lcl (g : Good t P cl k X T W sc) {x : Str} (h : RG.lcl sc.sc x = true) : X.env.scope.names.lookup x = some .local := by
  rw [g.scp]
  unfold RG.lcl at h
  split at h
  · rename_i e; exact e
  · cases h
theorem Good.slot (g : Good t P cl k X T W sc) {i : Nat} {x : Str} (h : t.N[i]? = some x) : X.N[i]? = some x ∧ (x == ("__debug__" : Str)) = false ∧ (x == ("__classdict__" : Str)) = false :=
  ⟨by rw [g.hN]; exact h, g.dbg x (List.mem_of_getElem? h)⟩
theorem Good.ndX (g : Good t P cl k X T W sc) : X.N.Nodup := by rw [g.hN]; exact g.nd
theorem Good.no (g : Good t P cl k X T W sc) {x : Str} (h : gkNo (t.gk.lookup x) = true) : X.mg x = none ∧ x ≠ "__name__" ∧ (x == ("__debug__" : Str)) = false := by
  unfold gkNo at h
  split at h
  · rename_i e; exact g.gl _ _ e
  · cases h
theorem Good.isFn (g : Good t P cl k X T W sc) {x : Str} {f : Nat} (h : gkFn (t.gk.lookup x) f = true) : X.mg x = some (.ref (T.fad f)) ∧ x ≠ "__name__" ∧ (x == ("__debug__" : Str)) = false := by
  unfold gkFn at h
  split at h
  · rename_i e
    have := of_decide_eq_true h
    subst this
    exact g.gl _ _ e
  · cases h
theorem Good.isCls (g : Good t P cl k X T W sc) {x : Str} {c : Nat} (h : gkCls (t.gk.lookup x) c = true) : X.mg x = some (.ref (T.cls c)) ∧ x ≠ "__name__" ∧ (x == ("__debug__" : Str)) = false := by
  unfold gkCls at h
  split at h
  · rename_i e
    have := of_decide_eq_true h
    subst this
    exact g.gl _ _ e
  · cases h
theorem Good.isBi (g : Good t P cl k X T W sc) {x : Str} {i : String} (h : gkBi (t.gk.lookup x) i = true) : X.mg x = some (.builtin i) ∧ x ≠ "__name__" ∧ (x == ("__debug__" : Str)) = false := by
  unfold gkBi at h
  split at h
  · rename_i e
    have := of_decide_eq_true h
    subst this
    exact g.gl _ _ e
  · cases h
theorem rel_look {sc : Scope} {q : NameKind} (hq : q ≠ .free) : ∀ {names : List (Str × NameKind)} {x : Str}, names.lookup x = some q →
    (names.map fun (n, k) => if (k == NameKind.free && sc.kind == .function && sc.names.lookup n == some .cell) then (n, NameKind.cell) else (n, k)).lookup x = some q
  | [], _, h => by simp at h
  | (n, k) :: r, x, h => by
    have ih := @rel_look sc q hq r x
    show List.lookup x ((if (k == NameKind.free && sc.kind == .function && sc.names.lookup n == some .cell) = true then (n, NameKind.cell) else (n, k)) :: _) = _
    cases hx : x == n with
    | true =>
      simp only [List.lookup_cons, hx] at h
      cases h
      rw [if_neg (by intro z; simp only [Bool.and_eq_true, beq_iff_eq] at z; exact hq z.1.1)]
      simp [List.lookup_cons, hx]
    | false =>
      simp only [List.lookup_cons, hx] at h
      by_cases hc : (k == NameKind.free && sc.kind == .function && sc.names.lookup n == some .cell) = true
      · rw [if_pos hc]; simp only [List.lookup_cons, hx]; exact ih h
      · rw [if_neg hc]; simp only [List.lookup_cons, hx]; exact ih h
theorem rel_lookup {scope sc : Scope} {x : Str} {q : NameKind} (hq : q ≠ .free) (h : scope.names.lookup x = some q) : (rel scope sc).names.lookup x = some q := rel_look hq h
/-- in a comprehension's block -/
theorem Good.blk (g : Good t P cl k X T W sc) (l : List Addr) (s : Shared) (H : Hp) (scope : Scope) (C : Addr) (cs : List (Str × Addr)) (fp : List Addr) : Good t P cl k (X.blk s H scope (compEnvC scope cs C X.env) fp) (T.hs l) W0 ⟨rel scope sc.sc, scope⟩ where
  hN := g.hN
  nd := g.nd
  dbg := g.dbg
  scp := by rw [← g.scp]; rfl
  fnk := fun x h => ⟨by show (scope.names.lookup x == some .cell) = true; rw [h]; rfl, rel_lookup (by simp) h⟩
  lok := fun x h => rel_lookup (by simp) h
  calm := g.calm
  tk := takes0
  room := g.room
  gl := fun x q h => by
    have := g.gl x q h
    cases q <;> exact this
  fn := fun x f h => ⟨(g.fn x f h).ex, (g.fn x f h).kp⟩
  me := fun m => ⟨fun c f h => let ⟨a, b, F⟩ := (g.me m).ok c f h; ⟨a, b, ⟨F.ex, F.kp⟩⟩⟩
  ini := fun x c h => let ⟨f, e, a, F⟩ := g.ini x c h; ⟨f, e, a, ⟨F.ex, F.kp⟩⟩
  fl := g.fl
  at_ := g.at_
end

theorem ht_any {o : Expr} {es : List Expr} {name : Str} {apos pos : Pos} {env : PySem.Env} (hb : attributeBase o name env (eval o env) = eval o env) (hl : (apos.endLine == pos.line) = true) (hf : methodCallForm (es.length + 0) (backTo pos (starEach es env)) [] = true) :
  eval (.Call (.Attribute o name apos) es [] pos) env = (do
      let ov ← eval o env
      standAt apos.atName
      let (f, first) ← holding [ov] (getMethod ov name (do return (← importBound o env).getD true))
      callWith pos f first (backTo pos (starEach es env)) (backToKw pos (keywordEach [] env))) := by
  rw [eval, hb]
  unfold methodCall calleeOf methodCallPos
  have hf' : methodCallForm (es.length + ([] : List Keyword).length) (backTo pos (starEach es env)) (backToKw pos (keywordEach [] env)) = true := hf
  simp only [hf', hl, Bool.not_true, Bool.false_or, if_true]
  rfl
section
variable {t : Tab} {P : Prog} {cl : Nat → List D → Store → R D} {k : Nat} {r : Sv → Qy → Bool} {X : Cx} {T : Txt} {W : WX} {sc : Sv}
theorem ckName_ok {sc : Sv} {x : Str} {pos : Pos} {A : E} (h : ckName t sc x A = true) : Snd t P cl k sc (.e (.Name x pos) A) := by
  intro X T W g
  unfold ckName at h
  split at h
  · rw [Bool.and_eq_true, decide_eq_true_eq] at h
    obtain ⟨h1, h2, h3⟩ := g.slot h.1
    exact se_var h1 (g.vis h.2) h2 h3
  · cases h
theorem lit_ok {c : Const} {d : D} {j : Nat} {pos : Pos} (h : litB c d = true) : Snd t P cl k sc (.e (.Constant c j pos) (.lit d)) := by
  intro X T W g
  unfold litB at h
  split at h
  · have := of_decide_eq_true h; subst this; exact se_lit pe_int fun _ _ => .int _
  · rename_i b c'
    have : b = c' := by simpa using h
    subst this; exact se_lit pe_bl fun _ _ => .bl _
  · have := of_decide_eq_true h; subst this; exact se_lit pe_str fun _ _ => .str _
  · exact se_lit pe_non fun _ _ => .non
  · cases h
theorem args_ok {es : List Expr} (h : argsOk es = true) : ∃ e r, es = e :: r ∧ isStar e = false ∧ noStars r = true := by
  cases es with
  | nil => cases h
  | cons e r =>
    have h : (!isStar e && noStars r) = true := h
    rw [Bool.and_eq_true, Bool.not_eq_true'] at h
    exact ⟨e, r, rfl, h.1, h.2⟩
theorem tyB_ok {j : Nat} {n : Str} (h : tyB j n = true) : j < 5 ∧ bootBuiltins n = some (.type (tyN j)) := by
  unfold tyB at h
  split at h
  · obtain rfl := eq_of_beq h; exact ⟨by decide, boot_int⟩
  · obtain rfl := eq_of_beq h; exact ⟨by decide, boot_bool⟩
  · obtain rfl := eq_of_beq h; exact ⟨by decide, boot_str⟩
  · obtain rfl := eq_of_beq h; exact ⟨by decide, boot_tuple⟩
  · obtain rfl := eq_of_beq h; exact ⟨by decide, boot_list⟩
  · cases h
theorem biB_ok {X : Cx} {T : Txt} (hc : X.calm = true) {b : BI} {x : Str} (h : biB b x = true) : ∃ id, bootBuiltins x = some (.builtin id) ∧ CallR X (.builtin id) (rBi X.K T b) := by
  unfold biB at h
  split at h
  · obtain rfl := eq_of_beq h; exact ⟨_, boot_len, bi_len⟩
  · obtain rfl := eq_of_beq h; exact ⟨_, boot_abs, bi_abs⟩
  · obtain rfl := eq_of_beq h; exact ⟨_, boot_max, bi_max hc⟩
  · obtain rfl := eq_of_beq h; exact ⟨_, boot_min, bi_min hc⟩
  · obtain rfl := eq_of_beq h; exact ⟨_, boot_all, bi_all hc⟩
  · obtain rfl := eq_of_beq h; exact ⟨_, boot_any, bi_any hc⟩
  · cases h
theorem biT_ok {X : Cx} {T : Txt} {b : BI} {x : Str} (h : biT b x = true) : ∃ id, bootBuiltins x = some (.type id) ∧ CallR X (.type id) (rBi X.K T b) := by
  unfold biT at h
  split at h
  · obtain rfl := eq_of_beq h; exact ⟨_, boot_int, bi_int⟩
  · obtain rfl := eq_of_beq h; exact ⟨_, boot_tuple, bi_tuple⟩
  · cases h
theorem argS (g : Good t P cl k X T W sc) (hr : ∀ sc q, r sc q = true → Snd t P cl k sc q) {es : List Expr} {A : Es} (h : (argsOk es && r sc (.es es A)) = true) :
    ∃ e es', es = e :: es' ∧ starEach (e :: es') X.env = (false, eval e X.env) :: starEach es' X.env ∧ (∀ pos, (backTo pos (starEach es' X.env)).any (·.1) = false) ∧ PA X (e :: es') (tEs X.K T P cl W A) := by
  rw [Bool.and_eq_true] at h
  obtain ⟨e, r', rfl, s1, s2⟩ := args_ok h.1
  exact ⟨e, r', rfl, star_cons s1, fun _ => stars_plain s2, hr _ _ h.2 X T W g⟩
theorem ckCall_ok (hr : ∀ sc q, r sc q = true → Snd t P cl k sc q) {x : Str} {es : List Expr} {p pos : Pos} {A : E} (h : ckCall t r sc x es A = true) : Snd t P cl k sc (.e (.Call (.Name x p) es [] pos) A) := by
  intro X T W g
  have hrm := g.room.mono (Nat.le_succ k)
  unfold ckCall at h
  split at h
  · -- a def
    rename_i f A
    rw [Bool.and_eq_true, Bool.and_eq_true] at h
    obtain ⟨⟨h1, h2⟩, h3⟩ := h
    obtain ⟨m1, m2, m3⟩ := g.isFn h2
    have FA : FnAt X T cl k f := by
      unfold gkFn at h2
      split at h2
      · rename_i e
        have := of_decide_eq_true h2
        subst this
        exact g.fn _ _ e
      · cases h2
    split at h3
    · exact se_call0 FA hrm g.tk (g.glo h1) m1 m3
    · cases h3
    · obtain ⟨e, es', rfl, s1, s2, ha⟩ := argS g hr h3
      exact se_call FA hrm g.tk (g.glo h1) m1 ha m3 s1 (s2 _)
  · rename_i c A
    rw [Bool.and_assoc, Bool.and_eq_true, Bool.and_eq_true] at h
    obtain ⟨⟨h1, h2⟩, h3⟩ := h
    obtain ⟨m1, m2, m3⟩ := g.isCls h2
    obtain ⟨e, es', rfl, s1, s2, ha⟩ := argS g hr h3
    unfold gkCls at h2
    split at h2
    · rename_i e
      have := of_decide_eq_true h2
      subst this
      obtain ⟨f, hi, M, F⟩ := g.ini _ _ e
      exact se_mk hi F M g.room (g.glo h1) m1 ha m3 s1 (s2 _)
    · cases h2
  · rename_i A
    rw [Bool.and_assoc, Bool.and_eq_true, Bool.and_eq_true] at h
    obtain ⟨⟨h1, h2⟩, h3⟩ := h
    obtain ⟨m1, m2, m3⟩ := g.isBi h2
    obtain ⟨e, es', rfl, s1, s2, ha⟩ := argS g hr h3
    exact se_biM bi_gcd (g.glo h1) m1 ha m3 s1 (s2 _)
  · rename_i ts A
    rw [Bool.and_eq_true, Bool.and_eq_true, Bool.and_eq_true] at h
    obtain ⟨⟨⟨h0, h1⟩, h2⟩, h3⟩ := h
    obtain rfl := eq_of_beq h0
    obtain ⟨m1, m2, m3⟩ := g.no h2
    split at h3
    · simp only [Bool.and_eq_true, Bool.not_eq_true'] at h3
      obtain ⟨⟨⟨⟨s1, ty⟩, g1⟩, n1⟩, he⟩ := h3
      obtain ⟨t5, bt⟩ := tyB_ok ty
      obtain ⟨k1, k2, k3⟩ := g.no n1
      exact se_is1 t5 (g.glo h1) m1 (g.glo g1) k1 bt k2 k3 (hr _ _ he X T W g) (star_cons s1)
    · simp only [Bool.and_eq_true, Bool.not_eq_true'] at h3
      obtain ⟨⟨⟨⟨⟨⟨⟨s1, t1⟩, t2⟩, g1⟩, n1⟩, g2⟩, n2⟩, he⟩ := h3
      obtain rfl := eq_of_beq t1
      obtain rfl := eq_of_beq t2
      exact se_is2 (g.glo h1) m1 (g.glo g1) (g.no n1).1 (g.glo g2) (g.no n2).1 (hr _ _ he X T W g) (star_cons s1)
    · cases h3
  · rename_i b A _ _
    rw [Bool.and_assoc, Bool.and_eq_true, Bool.and_eq_true, Bool.and_eq_true, Bool.or_eq_true] at h
    obtain ⟨⟨⟨h1, h2⟩, hb⟩, h3⟩ := h
    obtain ⟨m1, m2, m3⟩ := g.no h2
    obtain ⟨e, es', rfl, s1, s2, ha⟩ := argS g hr h3
    rcases hb with hb | hb
    · obtain ⟨id, e1, e2⟩ := biB_ok (X := X) (T := T) g.calm hb
      exact se_bi e2 (g.glo h1) m1 e1 ha m2 m3 s1 (s2 _)
    · obtain ⟨id, e1, e2⟩ := biT_ok (X := X) (T := T) hb
      exact se_biT e2 (g.glo h1) m1 e1 ha m2 m3 s1 (s2 _)
  · cases h
theorem ckMeth_ok (hr : ∀ sc q, r sc q = true → Snd t P cl k sc q) {o : Expr} {name : Str} {es : List Expr} {apos pos : Pos} {A : E} (h : ckMeth t r sc o name apos pos es A = true) : Snd t P cl k sc (.e (.Call (.Attribute o name apos) es [] pos) A) := by
  intro X T W g
  have hrm := g.room.mono (Nat.le_succ k)
  unfold ckMeth at h
  split at h
  · rename_i O m A
    simp only [Bool.and_eq_true, decide_eq_true_eq] at h
    obtain ⟨⟨⟨⟨⟨⟨h1, h2⟩, h3⟩, h4⟩, h5⟩, h6⟩, h7⟩ := h
    have e := g.at_ _ _ h1
    subst e
    have ht := ht_any (es := es) (superN (attr := T.att m) (env := X.env) h2) h3 (few_ok (env := X.env) (pos := pos) h4 h5)
    cases es with
    | nil =>
      cases A with
      | nil => exact se_meth0 (g.me m) hrm g.tk (hr _ _ h6 X T W g) ht
      | cons _ _ => cases h7
    | cons e es =>
      have h7 : r sc (.es (e :: es) A) = true := h7
      unfold noStars at h4
      rw [List.all_cons, Bool.and_eq_true, Bool.not_eq_true'] at h4
      exact se_meth (g.me m) hrm g.tk (hr _ _ h6 X T W g) (hr _ _ h7 X T W g) (star_cons h4.1) (stars_plain h4.2) ht
  · cases h
theorem marks2 {op op' : CmpOp} {b c : Expr} (h : isSet c = false) : lastMarks [op, op'] [b, c] = false := nomarks h
theorem ckCmp_ok (hr : ∀ sc q, r sc q = true → Snd t P cl k sc q) {a : Expr} {ops : List CmpOp} {bs : List Expr} {pos : Pos} {A : E} (h : ckCmp r sc a ops bs A = true) : Snd t P cl k sc (.e (.Compare a ops bs pos) A) ∧ Snd t P cl k sc (.t (.Compare a ops bs pos) A) := by
  unfold ckCmp at h
  split at h
  · simp only [Bool.and_eq_true, Bool.not_eq_true'] at h
    obtain ⟨⟨⟨h1, h2⟩, h3⟩, h4⟩ := h
    exact ⟨fun X T W g => se_cmp (opC_ok g.room h1) (hr _ _ h3 X T W g) (hr _ _ h4 X T W g) (nomarks h2), fun X T W g => st_cmp (opC_ok g.room h1) (hr _ _ h3 X T W g) (hr _ _ h4 X T W g) (nomarks h2)⟩
  · exact ⟨fun X T W g => se_isN (hr _ _ h X T W g) rfl, fun X T W g => st_isN (hr _ _ h X T W g) rfl⟩
  · exact ⟨fun X T W g => se_notN (hr _ _ h X T W g) rfl, fun X T W g => st_notN (hr _ _ h X T W g) rfl⟩
  · simp only [Bool.and_eq_true, Bool.not_eq_true'] at h
    obtain ⟨⟨h2, h3⟩, h4⟩ := h
    exact ⟨fun X T W g => se_in (hr _ _ h3 X T W g) (hr _ _ h4 X T W g) (nomarks h2), fun X T W g => st_in (hr _ _ h3 X T W g) (hr _ _ h4 X T W g) (nomarks h2)⟩
  · simp only [Bool.and_eq_true, Bool.not_eq_true'] at h
    obtain ⟨⟨h2, h3⟩, h4⟩ := h
    exact ⟨fun X T W g => se_notin (hr _ _ h3 X T W g) (hr _ _ h4 X T W g) (nomarks h2), fun X T W g => st_notin (hr _ _ h3 X T W g) (hr _ _ h4 X T W g) (nomarks h2)⟩
  · simp only [Bool.and_eq_true, Bool.not_eq_true'] at h
    obtain ⟨⟨⟨⟨⟨h1, h2⟩, h3⟩, h4⟩, h5⟩, h6⟩ := h
    exact ⟨fun X T W g => se_chain (opC_ok g.room h1) (opC_ok g.room h2) (hr _ _ h4 X T W g) (hr _ _ h5 X T W g) (hr _ _ h6 X T W g) (marks2 h3), fun X T W g => st_chain (opC_ok g.room h1) (opC_ok g.room h2) (hr _ _ h4 X T W g) (hr _ _ h5 X T W g) (hr _ _ h6 X T W g) (marks2 h3)⟩
  · cases h
theorem ckSlice_ok (hr : ∀ sc q, r sc q = true → Snd t P cl k sc q) {a : Expr} {lo hi st : Option Expr} {p pos : Pos} {A : E} (h : ckSlice r sc a lo hi st A = true) : Snd t P cl k sc (.e (.Subscript a (.Slice lo hi st p) pos) A) := by
  intro X T W g
  unfold ckSlice at h
  split at h
  · split at h
    · simp only [Bool.and_eq_true] at h
      exact se_slcL (hr _ _ h.1 X T W g) (hr _ _ h.2 X T W g)
    · simp only [Bool.and_eq_true] at h
      exact se_slcU (hr _ _ h.1 X T W g) (hr _ _ h.2 X T W g)
    · simp only [Bool.and_eq_true] at h
      exact se_slcLU (hr _ _ h.1.1 X T W g) (hr _ _ h.1.2 X T W g) (hr _ _ h.2 X T W g)
    · cases h
  · cases h
theorem ckE_ok (hr : ∀ sc q, r sc q = true → Snd t P cl k sc q) {e : Expr} {A : E} (h : ckE t r sc e A = true) : Snd t P cl k sc (.e e A) := by
  unfold ckE at h
  split at h
  · exact fun X T W g => se_bad
  · exact fun X T W g => sf_of (hr _ _ h X T W g)
  · exact fun X T W g => so_of (hr _ _ h X T W g)
  · split at h
    · exact ckName_ok h
    · split at h
      · exact lit_ok h
      · cases h
    · split at h
      · simp only [Bool.and_eq_true] at h
        exact fun X T W g => se_bin (opB_ok h.1.1) (hr _ _ h.1.2 X T W g) (hr _ _ h.2 X T W g)
      · cases h
    · split at h
      · exact fun X T W g => se_neg (hr _ _ h X T W g)
      · cases h
    · split at h
      · exact fun X T W g => se_not (hr _ _ h X T W g)
      · cases h
    · exact (ckCmp_ok hr h).1
    · exact fun X T W g => hr _ _ h X T W _ g
    · split at h
      · simp only [Bool.and_eq_true] at h
        exact fun X T W g => se_ite (hr _ _ h.1.1 X T W g) (hr _ _ h.1.2 X T W g) (hr _ _ h.2 X T W g)
      · cases h
    · split at h
      · simp only [Bool.and_eq_true, decide_eq_true_eq] at h
        exact fun X T W g => se_tup (hr _ _ h.2 X T W g) h.1
      · cases h
    · exact ckSlice_ok hr h
    · split at h
      · simp only [Bool.and_eq_true, Bool.not_eq_true'] at h
        exact fun X T W g => se_idx (hr _ _ h.1.2 X T W g) (hr _ _ h.2 X T W g) (plainIx h.1.1)
      · cases h
    · exact ckCall_ok hr h
    · exact ckMeth_ok hr h
    · split at h
      · simp only [Bool.and_eq_true, decide_eq_true_eq] at h
        intro X T W g
        have e := g.at_ _ _ h.1.1
        subst e
        exact se_fld (fun c hc => g.fl c _ hc) (hr _ _ h.2 X T W g) (superN h.1.2)
      · cases h
    · cases h
theorem ckB_ok (hr : ∀ sc q, r sc q = true → Snd t P cl k sc q) {op : BoolOp} {es : List Expr} {A : E} (h : ckB r sc op es A = true) : Snd t P cl k sc (.b op es A) := by
  intro X T W pos g
  unfold ckB at h
  split at h
  · exact pe_one (hr _ _ h X T W g)
  · simp only [Bool.and_eq_true, decide_eq_true_eq] at h
    obtain ⟨⟨rfl, h1⟩, h2⟩ := h
    exact se_and (hr _ _ h1 X T W g) (hr _ _ h2 X T W _ g)
  · simp only [Bool.and_eq_true, decide_eq_true_eq] at h
    obtain ⟨⟨rfl, h1⟩, h2⟩ := h
    exact se_or (hr _ _ h1 X T W g) (hr _ _ h2 X T W _ g)
  · cases h
theorem ckW_ok (hr : ∀ sc q, r sc q = true → Snd t P cl k sc q) {op : BoolOp} {es : List Expr} {A : E} (h : ckW r sc op es A = true) : Snd t P cl k sc (.w op es A) := by
  intro X T W pos g
  unfold ckW at h
  split at h
  · cases op with
    | And => exact pw_and1 (hr _ _ h X T W g)
    | Or => exact pw_or1 (hr _ _ h X T W g)
  · simp only [Bool.and_eq_true, decide_eq_true_eq] at h
    obtain ⟨⟨rfl, h1⟩, h2⟩ := h
    exact sw_and (hr _ _ h1 X T W g) (hr _ _ h2 X T W _ g)
  · simp only [Bool.and_eq_true, decide_eq_true_eq] at h
    obtain ⟨⟨rfl, h1⟩, h2⟩ := h
    exact sw_or (hr _ _ h1 X T W g) (hr _ _ h2 X T W _ g)
  · cases h
theorem ckT_ok (hr : ∀ sc q, r sc q = true → Snd t P cl k sc q) {e : Expr} {A : E} (h : ckT r sc e A = true) : Snd t P cl k sc (.t e A) := by
  unfold ckT at h
  split at h
  · exact fun X T W g => PT.bad fun σ H Q ⟨_, _, _, _, h⟩ => h
  · split at h
    · exact (ckCmp_ok hr h).2
    · exact fun X T W g => (hr _ _ h X T W _ g).pt
    · split at h
      · exact fun X T W g => st_not (hr _ _ h X T W g)
      · cases h
    · rw [Bool.and_eq_true] at h
      exact fun X T W g => st_val (hr _ _ h.2 X T W g) (testV h.1)
theorem ckEs_ok (hr : ∀ sc q, r sc q = true → Snd t P cl k sc q) {es : List Expr} {A : Es} (h : ckEs r sc es A = true) : Snd t P cl k sc (.es es A) := by
  intro X T W g
  unfold ckEs at h
  split at h
  · exact sa_nil
  · simp only [Bool.and_eq_true, Bool.not_eq_true'] at h
    exact sa_cons (hr _ _ h.1.2 X T W g) (hr _ _ h.2 X T W g) (star_cons h.1.1)
  · cases h
mutual
theorem ckTg_ok : ∀ (tg : Tg) {sc : Sv} {e : Expr}, ckTg t sc tg e = true → ∀ X T W, Good t P cl k X T W sc → PG X e (gT X.K T tg)
  | .name i, sc, e, h, X, T, W, g => by
    cases e with
    | Name x p =>
      unfold ckTg at h
      rw [Bool.and_eq_true, decide_eq_true_eq] at h
      obtain ⟨h1, _, _⟩ := g.slot h.1
      obtain ⟨l1, l2⟩ := g.loc h.2
      exact sg_name g.ndX h1 l1 l2
    | _ => unfold ckTg at h; cases h
  | .tup ts, sc, e, h, X, T, W, g => by
    cases e with
    | Tuple es j p =>
      unfold ckTg at h
      rw [Bool.and_eq_true] at h
      obtain ⟨h1, h2, h3⟩ := ckTgs_ok ts h.1 h.2 X T W g
      exact sg_tup g.calm h1 h2 h3
    | _ => unfold ckTg at h; cases h
theorem ckTgs_ok : ∀ (ts : List Tg) {sc : Sv} {es : List Expr}, noStars es = true → ckTgs t sc ts es = true → ∀ X T W, Good t P cl k X T W sc → PGs X es (gTs X.K T ts) ∧ (assignEach es X.env).length = ts.length ∧ (assignEach es X.env).findIdx? (·.1) = none
  | [], sc, es, hs, h, X, T, W, g => by
    cases es with
    | nil => exact ⟨sgs_nil, rfl, rfl⟩
    | cons _ _ => unfold ckTgs at h; cases h
  | t1 :: ts, sc, es, hs, h, X, T, W, g => by
    cases es with
    | nil => unfold ckTgs at h; cases h
    | cons e es =>
      unfold ckTgs at h
      rw [Bool.and_eq_true] at h
      unfold noStars at hs
      rw [List.all_cons, Bool.and_eq_true, Bool.not_eq_true'] at hs
      obtain ⟨h1, h2, h3⟩ := ckTgs_ok ts (sc := sc) (es := es) (by unfold noStars; exact hs.2) h.2 X T W g
      have ea : assignEach (e :: es) X.env = (false, assign e X.env) :: assignEach es X.env := by
        have hst := hs.1
        cases e <;> first | rfl | cases hst
      refine ⟨sgs_cons (ckTg_ok t1 h.1 X T W g) h1 (by rw [ea]; rfl), by rw [ea, List.length_cons, List.length_cons, h2], ?_⟩
      rw [ea, List.findIdx?_cons]
      simp [h3]
end
theorem ownOf_ok : ∀ {is : List Nat} {scope : Scope} {own : List (Str × Nat)}, ownOf t scope is = some own → own.map (·.2) = is
  | [], _, own, h => by
    cases h; rfl
  | i :: is, scope, own, h => by
    unfold ownOf at h
    rw [List.mapM_cons] at h
    cases e : t.N[i]? with
    | none => rw [e] at h; cases h
    | some x =>
      rw [e] at h
      cases e2 : is.mapM (fun i => (t.N[i]?).map fun x => (x, i)) with
      | none => rw [e2] at h; cases h
      | some r =>
        rw [e2] at h
        cases h
        rw [List.map_cons, ownOf_ok (is := is) (scope := scope) e2]
theorem subset_ok {xs ys : List Nat} (h : subset xs ys = true) : ∀ i ∈ xs, i ∈ ys := by
  unfold subset at h
  rw [List.all_eq_true] at h
  intro i hi
  simpa using h i hi
theorem Good.blkOk (g : Good t P cl k X T W sc) {scope : Scope} {own : List (Str × Nat)} (h : blkC t.N sc.sc scope own = true) : BlkOk X.N X.env.scope scope own := by
  rw [g.hN, g.scp]
  exact blkOk_by h
/-- what the check says of a comprehension with one clause -/
theorem comp1_ok (hr : ∀ sc q, r sc q = true → Snd t P cl k sc q) (g : Good t P cl k X T W sc) {is : List Nat} {tg : Tg} {it : It} {c elt : E} {e tge iter : Expr} {ifs : List Expr} {scope : Scope} {pos : Pos}
    (h : ckL t r sc (.ListComp e [⟨tge, iter, ifs, 0⟩] scope pos) (.comp is tg it c elt) = true) :
    ∃ own, own.map (·.2) = is ∧ PI X tge iter (tI X.K T P cl W it) ∧ BlkOk X.N X.env.scope scope own ∧ (∀ i ∈ tg.slots, i ∈ own.map (·.2)) ∧ Comp1 X T P cl scope tge ifs e tg c elt ∧ ∀ x, foldedSetIterable iter X.env x = pure x := by
  unfold ckL at h
  simp only at h
  split at h
  · cases h
  · rename_i own eo
    simp only [Bool.and_eq_true, Bool.not_eq_true'] at h
    obtain ⟨⟨⟨⟨⟨⟨h1, h2⟩, h3⟩, h4⟩, h5⟩, h6⟩, h7⟩ := h
    refine ⟨own, ownOf_ok eo, hr _ _ h4 X T W g, g.blkOk h1, subset_ok h2, ⟨fun l s H C cs fp => ckTg_ok tg h5 _ _ _ (g.blk l s H scope C cs fp), fun l s H C cs fp => ?_, fun l s H C cs fp => hr _ _ h6 _ _ _ (g.blk l s H scope C cs fp)⟩, noset h3⟩
    split at h7
    · exact PTs.imp pts_nil fun σ H Q q => yes_rd ⟨l, q⟩
    · exact pts_one (hr _ _ h7 _ _ _ (g.blk l s H scope C cs fp))
    · cases h7
theorem comp2_ok (hr : ∀ sc q, r sc q = true → Snd t P cl k sc q) (g : Good t P cl k X T W sc) {is is2 : List Nat} {tg tg2 : Tg} {it it2 : It} {elt : E} {e tge iter tge2 iter2 : Expr} {scope : Scope} {pos : Pos}
    (h : ckL t r sc (.ListComp e [⟨tge, iter, [], 0⟩, ⟨tge2, iter2, [], 0⟩] scope pos) (.comp2 is is2 tg it tg2 it2 elt) = true) :
    ∃ own, own.map (·.2) = is ∧ PI X tge iter (tI X.K T P cl W it) ∧ BlkOk X.N X.env.scope scope own ∧ (∀ i ∈ is2, i ∈ own.map (·.2)) ∧ (∀ i ∈ tg.slots, i ∈ own.map (·.2)) ∧ (∀ i ∈ tg2.slots, i ∈ is2) ∧ Comp2 X T P cl scope tge tge2 iter2 e tg tg2 it2 elt ∧ (∀ x, foldedSetIterable iter X.env x = pure x) ∧ ∀ env x, foldedSetIterable iter2 env x = pure x := by
  unfold ckL at h
  simp only at h
  split at h
  · cases h
  · rename_i own eo
    simp only [Bool.and_eq_true, Bool.not_eq_true'] at h
    obtain ⟨⟨⟨⟨⟨⟨⟨⟨⟨⟨h1, h2⟩, h3⟩, h4⟩, h5⟩, h6⟩, h7⟩, h8⟩, h9⟩, h10⟩, h11⟩ := h
    exact ⟨own, ownOf_ok eo, hr _ _ h7 X T W g, g.blkOk h1, subset_ok h2, subset_ok h3, subset_ok h4, ⟨fun l s H C cs fp => ckTg_ok tg h8 _ _ _ (g.blk l s H scope C cs fp), fun l s H C cs fp => hr _ _ h9 _ _ _ (g.blk l s H scope C cs fp), fun l s H C cs fp => ckTg_ok tg2 h10 _ _ _ (g.blk l s H scope C cs fp), fun l s H C cs fp => hr _ _ h11 _ _ _ (g.blk l s H scope C cs fp)⟩, noset h5, fun _ => noset h6⟩
theorem ckL_ok (hr : ∀ sc q, r sc q = true → Snd t P cl k sc q) {e : Expr} {l : L} (h : ckL t r sc e l = true) : Snd t P cl k sc (.l e l) := by
  intro X T W g
  have h0 := h
  unfold ckL at h
  split at h
  · simp only [Bool.and_eq_true, decide_eq_true_eq] at h
    exact sn_of (sl_disp (hr _ _ h.2 X T W g) h.1)
  · simp only [Bool.and_eq_true, Bool.not_eq_true'] at h
    obtain ⟨⟨⟨⟨h1, h2⟩, h3⟩, h4⟩, h5⟩ := h
    obtain rfl := eq_of_beq h1
    obtain ⟨m1, m2, m3⟩ := g.no h3
    exact sn_of (sl_ofs (g.glo h2) m1 boot_list (hr _ _ h5 X T W g) m2 m3 (star_cons h4))
  · rw [Bool.and_eq_true] at h
    exact sn_of (sl_cat (hr _ _ h.1 X T W g) (hr _ _ h.2 X T W g))
  · rw [Bool.and_eq_true] at h
    exact sn_of (sl_rep (hr _ _ h.1 X T W g) (hr _ _ h.2 X T W g))
  · obtain ⟨own, rfl, hi, ok, hsl, C, hs⟩ := comp1_ok hr g h0
    exact sn_comp g.calm g.ndX hi ok hsl C hs
  · obtain ⟨own, rfl, hi, ok, hv, hsl, hsl2, C, hs, hs2⟩ := comp2_ok hr g h0
    exact sn_comp2 g.calm g.ndX hi ok hv hsl hsl2 C hs hs2
  · cases h
theorem ckIt_ok (hr : ∀ sc q, r sc q = true → Snd t P cl k sc q) {tg e : Expr} {it : It} (h : ckIt t r sc tg e it = true) : Snd t P cl k sc (.it tg e it) := by
  intro X T W g
  unfold ckIt at h
  split at h
  · exact si_seq (hr _ _ h X T W g)
  · split at h
    · simp only [Bool.and_eq_true, Bool.not_eq_true'] at h
      obtain ⟨⟨⟨⟨h1, h2⟩, h3⟩, h4⟩, h5⟩ := h
      obtain rfl := eq_of_beq h1
      exact si_enum (g.glo h2) (g.no h3).1 (hr _ _ h5 X T W g) (star_cons h4)
    · cases h
  · split at h
    · simp only [Bool.and_eq_true, Bool.not_eq_true'] at h
      obtain ⟨⟨⟨⟨h1, h2⟩, h3⟩, h4⟩, h5⟩ := h
      obtain rfl := eq_of_beq h1
      exact si_rev (g.glo h2) (g.no h3).1 (hr _ _ h5 X T W g) (star_cons h4)
    · cases h
  · split at h
    · simp only [Bool.and_eq_true, Bool.not_eq_true'] at h
      obtain ⟨⟨⟨⟨h1, h2⟩, h3⟩, h4⟩, h5⟩ := h
      obtain rfl := eq_of_beq h1
      exact si_rng1 (g.glo h2) (g.no h3).1 (hr _ _ h5 X T W g) (star_cons h4)
    · simp only [Bool.and_eq_true, Bool.not_eq_true'] at h
      obtain ⟨⟨⟨⟨⟨⟨h1, h2⟩, h3⟩, h4⟩, h5⟩, h6⟩, h7⟩ := h
      obtain rfl := eq_of_beq h1
      exact si_rng2 (g.glo h2) (g.no h3).1 (hr _ _ h6 X T W g) (hr _ _ h7 X T W g) (by rw [star_cons h4, star_cons h5]; rfl) (star_cons h5)
    · simp only [Bool.and_eq_true, Bool.not_eq_true'] at h
      obtain ⟨⟨⟨⟨⟨⟨h1, h2⟩, h3⟩, h4⟩, h5⟩, h6⟩, h7⟩ := h
      obtain rfl := eq_of_beq h1
      exact si_rngD (g.glo h2) (g.no h3).1 (hr _ _ h6 X T W g) (hr _ _ h7 X T W g) (star_cons h4) (star_cons h5)
    · cases h
  · cases h
theorem ck_ok : ∀ (n : Nat) (sc : Sv) (q : Qy), ck t n sc q = true → Snd t P cl k sc q
  | 0, _, _, h => by cases h
  | n + 1, sc, q, h => by
    have hr := ck_ok n
    unfold ck at h
    split at h
    · exact ckE_ok hr h
    · exact ckEs_ok hr h
    · exact ckL_ok hr h
    · exact ckIt_ok hr h
    · exact ckT_ok hr h
    · exact ckB_ok hr h
    · exact ckW_ok hr h
end
end RG
set_option Elab.async false
set_option linter.all false
set_option maxRecDepth 100000
set_option maxHeartbeats 2000000
/-! The check of statements, and that it is enough. -/
namespace RG
open PySem PySem.Spec PyProof.Rows L2

structure GoodS (t : Tab) (P : Prog) (cl : Nat → List D → Store → R D) (k : Nat) (X : Cx) (T : Txt) (W : WX) (sc : Sv) : Prop where
  g : Good t P cl k X T W sc
  own : PassesOwn (model X.prog X.w) X.A X.env X.xe
  kd : sc.sc.kind = .function

/-- is name = e done in one step -/
def swB (sc : Scope) (x : Str) (p : Pos) : Expr → Bool
  | .ListComp _ _ scope pos => lcl sc x && (p.line == pos.line) && !(scope.names.any fun (n, k) => n == x && (k == .local || k == .cell))
  | _ => false
theorem swB_ok {env : PySem.Env} {sc : Scope} (hs : env.scope = sc) (hk : sc.kind = .function) {x : Str} {p : Pos} {e : Expr} {l : Nat} (h : isComp e = true → ∃ a b c d, e = .ListComp a b c d) : swapsWith e (some (.Name x p)) l env = pure (swB sc x p e) := by
  have hb : env.blockKind = .function := by unfold Env.blockKind; rw [hs, hk]; rfl
  cases e <;> first | rfl | (obtain ⟨_, _, _, _, z⟩ := h rfl; cases z; done) | skip
  unfold swapsWith swB lcl
  have hkx : env.kindOf x = sc.names.lookup x := by unfold PySem.Env.kindOf; rw [hs]
  simp only [hb, hkx, Expr.pos]
  cases e1 : sc.names.lookup x with
  | none => rfl
  | some q => cases q <;> rfl
theorem stars_2 {a b : Expr} (h : noStars [a, b] = true) : isStar a = false ∧ isStar b = false := by
  unfold noStars at h
  simpa using h
theorem stars_3 {a b c : Expr} (h : noStars [a, b, c] = true) : isStar a = false ∧ isStar b = false ∧ isStar c = false := by
  unfold noStars at h
  simpa using h
def par2 (sc : Scope) (x y : Str) (px py : Pos) (vs : List Expr) : Bool := lcl sc x && lcl sc y && (py.line == px.line) && !(x == y) && noStars vs && !(vs.all (foldedForSure 8)) && !(vs.all (constantsAlone 8))
theorem stars_any {vs : List Expr} (h : noStars vs = true) : (vs.any fun | .Starred .. => true | _ => false) = false := by
  unfold noStars at h
  rw [List.all_eq_true] at h
  rw [List.any_eq_false]
  intro e he
  have := h e he
  cases e <;> first | (intro z; cases z; done) | cases this
theorem lcl_of {sc : Scope} {x : Str} (h : lcl sc x = true) : sc.names.lookup x = some .local := by
  unfold lcl at h
  split at h
  · assumption
  · cases h
theorem par2_ok {env : PySem.Env} {sc : Scope} (hs : env.scope = sc) (hk : sc.kind = .function) {x y : Str} {px py pt p2 : Pos} {kt k2 : Nat} {a b : Expr} (h : par2 sc x y px py [a, b] = true) :
    swappedStores [.Tuple [.Name x px, .Name y py] kt pt] (.Tuple [a, b] k2 p2) env = pure (some [x, y]) := by
  have hb : env.blockKind = .function := by unfold Env.blockKind; rw [hs, hk]; rfl
  unfold par2 at h
  simp only [Bool.and_eq_true, Bool.not_eq_true', beq_eq_false_iff_ne] at h
  obtain ⟨⟨⟨⟨⟨⟨h1, h2⟩, h3⟩, h4⟩, h5⟩, h6⟩, h7⟩ := h
  have e1 : env.kindOf x = some .local := by unfold PySem.Env.kindOf; rw [hs]; exact lcl_of h1
  have e2 : env.kindOf y = some .local := by unfold PySem.Env.kindOf; rw [hs]; exact lcl_of h2
  have h3' : py.line = px.line := eq_of_beq h3
  have h4' : (y == x) = false := beq_eq_false_iff_ne.mpr fun z => h4 z.symm
  unfold swappedStores
  simp only [hb, stars_any h5, h6, h7]
  simp [e1, e2, h3', Expr.pos, List.eraseDups_cons, h4', h4, Ne.symm h4]
  intro z
  exfalso
  rcases z with z | z
  · have q := (stars_2 h5).1
    cases a <;> first | (cases z; done) | cases q
  · have q := (stars_2 h5).2
    cases b <;> first | (cases z; done) | cases q
def par3 (sc : Scope) (x y z : Str) (px py pz : Pos) (vs : List Expr) : Bool := lcl sc x && lcl sc y && lcl sc z && (py.line == px.line) && (pz.line == px.line) && !(x == y) && !(x == z) && !(y == z) && noStars vs && !(vs.all (foldedForSure 8)) && !(vs.all (constantsAlone 8))
theorem par3_ok {env : PySem.Env} {sc : Scope} (hs : env.scope = sc) (hk : sc.kind = .function) {x y z : Str} {px py pz pt p2 : Pos} {kt k2 : Nat} {a b c : Expr} (h : par3 sc x y z px py pz [a, b, c] = true) :
    swappedStores [.Tuple [.Name x px, .Name y py, .Name z pz] kt pt] (.Tuple [a, b, c] k2 p2) env = pure (some [x, y, z]) := by
  have hb : env.blockKind = .function := by unfold Env.blockKind; rw [hs, hk]; rfl
  unfold par3 at h
  simp only [Bool.and_eq_true, Bool.not_eq_true', beq_eq_false_iff_ne] at h
  obtain ⟨⟨⟨⟨⟨⟨⟨⟨⟨⟨h1, h2⟩, h2z⟩, h3⟩, h3z⟩, h4⟩, h4b⟩, h4c⟩, h5⟩, h6⟩, h7⟩ := h
  have e1 : env.kindOf x = some .local := by unfold PySem.Env.kindOf; rw [hs]; exact lcl_of h1
  have e2 : env.kindOf y = some .local := by unfold PySem.Env.kindOf; rw [hs]; exact lcl_of h2
  have e3 : env.kindOf z = some .local := by unfold PySem.Env.kindOf; rw [hs]; exact lcl_of h2z
  have h3' : py.line = px.line := eq_of_beq h3
  have h3z' : pz.line = px.line := eq_of_beq h3z
  unfold swappedStores
  simp only [hb, stars_any h5, h6, h7]
  simp [e1, e2, e3, h3', h3z', Expr.pos, List.eraseDups_cons, h4, Ne.symm h4, h4b, Ne.symm h4b, h4c, Ne.symm h4c]
  intro w
  exfalso
  rcases w with w | w | w
  · have q := (stars_3 h5).1
    cases a <;> first | (cases w; done) | cases q
  · have q := (stars_3 h5).2.1
    cases b <;> first | (cases w; done) | cases q
  · have q := (stars_3 h5).2.2
    cases c <;> first | (cases w; done) | cases q
def plainT (sc : Scope) : Expr → Bool
  | .Name x _ => lcl sc x
  | _ => false
/-- the stores are not swapped -/
def swN (sc : Scope) (ts : List Expr) : Expr → Bool
  | .Tuple vs _ _ => !(ts.length == 2 || ts.length == 3) || vs.all (foldedForSure 8) || ts.any (fun e => !plainT sc e)
  | _ => true
theorem filterMap_short {α β : Type} {f : α → Option β} : ∀ {l : List α}, (∃ a ∈ l, f a = none) → (l.filterMap f).length < l.length
  | [], h => by obtain ⟨_, h, _⟩ := h; cases h
  | a :: l, h => by
    cases e : f a with
    | none =>
      rw [List.filterMap_cons_none e]
      exact Nat.lt_succ_of_le (List.length_filterMap_le _ _)
    | some b =>
      rw [List.filterMap_cons_some e]
      obtain ⟨c, hc, hn⟩ := h
      rcases List.mem_cons.mp hc with z | z
      · subst z; rw [e] at hn; cases hn
      · exact Nat.succ_lt_succ (filterMap_short ⟨c, z, hn⟩)
theorem swN_ok {env : PySem.Env} {sc : Scope} (hs : env.scope = sc) {ts : List Expr} {e : Expr} {k : Nat} {pos : Pos} (h : swN sc ts e = true) : swappedStores [.Tuple ts k pos] e env = pure none := by
  cases e <;> first | rfl | skip
  rename_i vs j p
  unfold swN at h
  unfold swappedStores
  dsimp only
  split
  · rfl
  · rename_i h1
    split
    · rfl
    · split
      · rfl
      · rename_i h3
        split
        · rfl
        · rename_i h4
          exfalso
          simp only [Bool.or_eq_true, Bool.not_eq_true'] at h
          rcases h with (h | h) | h
          · apply h1
            rw [h]; rfl
          · exact h4 h
          · apply h3
            rw [Bool.or_eq_true]
            refine .inl ?_
            rw [bne_iff_ne]
            refine Nat.ne_of_lt (filterMap_short ?_)
            rw [List.any_eq_true] at h
            obtain ⟨a, ha, hn⟩ := h
            refine ⟨a, ha, ?_⟩
            cases a <;> first | rfl | skip
            rename_i x p
            have hn : (!lcl sc x) = true := hn
            rw [Bool.not_eq_true'] at hn
            have hk : (env.kindOf x == some .local) = false := by
              unfold PySem.Env.kindOf
              rw [hs]
              unfold lcl at hn
              cases e1 : sc.names.lookup x with
              | none => rfl
              | some q => rw [e1] at hn; cases q <;> first | rfl | cases hn
            dsimp only
            rw [hk]
            rfl

/-! ### the check -/
section
variable (t : Tab)
def ckSetC (r : Sv → Qy → Bool) (sc : Sv) (e : Expr) : E → Bool
  | .frz (.comp is tg it c x) => ckL t r sc e (.comp is tg it c x)
  | .own (.comp is tg it c x) => ckL t r sc e (.comp is tg it c x)
  | .frz (.comp2 is is2 tg it tg2 it2 x) => ckL t r sc e (.comp2 is is2 tg it tg2 it2 x)
  | .own (.comp2 is is2 tg it tg2 it2 x) => ckL t r sc e (.comp2 is is2 tg it tg2 it2 x)
  | .bad => true
  | _ => false
def okComp : Expr → Bool
  | .SetComp _ _ _ _ => false
  | .DictComp _ _ _ _ _ => false
  | _ => true
def ckAsg (r : Sv → Qy → Bool) (sc : Sv) (tg e : Expr) (s : S) : Bool :=
  match s, tg with
  | .set i A, .Name x p => decide (t.N[i]? = some x) && locB sc.so x && okComp e && (if swB sc.sc x p e then ckSetC t r sc e A else r sc (.e e A))
  | .par is A, .Tuple ts _ _ => (match is, ts, e with
    | [i, j], [.Name x px, .Name y py], .Tuple [a, b] _ _ => decide (t.N[i]? = some x) && decide (t.N[j]? = some y) && decide (i ≠ j) && par2 sc.sc x y px py [a, b] && r sc (.es [a, b] A)
    | [i, j, l], [.Name x px, .Name y py, .Name z pz], .Tuple [a, b, c] _ _ => decide (t.N[i]? = some x) && decide (t.N[j]? = some y) && decide (t.N[l]? = some z) && decide (i ≠ j) && decide (i ≠ l) && decide (j ≠ l) && par3 sc.sc x y z px py pz [a, b, c] && r sc (.es [a, b, c] A)
    | _, _, _ => false)
  | .unp tgt A, .Tuple ts j p => swN sc.sc ts e && ckTg t sc tgt (.Tuple ts j p) && r sc (.e e A)
  | .sub O I A, .Subscript o i _ => !isSlice i && r sc (.e e A) && r sc (.e o O) && r sc (.e i I)
  | .setf f A, .Attribute o name _ => decide (t.att[f]? = some name) && r sc (.e e A) && r sc (.e o (.var 0))
  | _, _ => false
def ckExpr (r : Sv → Qy → Bool) (sc : Sv) (e : Expr) (s : S) : Bool :=
  match s with
  | .pass => match e with
    | .Constant (.str _) _ _ => true
    | _ => false
  | .app O A => match e with
    | .Call (.Attribute o name apos) [a] [] cpos => name == "append" && noSuper o && (apos.endLine == cpos.line) && !isStar a && r sc (.e o O) && r sc (.e a A)
    | _ => false
  | .ext O A => match e with
    | .Call (.Attribute o name apos) [a] [] cpos => name == "extend" && noSuper o && (apos.endLine == cpos.line) && !isStar a && r sc (.e o O) && r sc (.e a A)
    | _ => false
  | .pop O => match e with
    | .Call (.Attribute o name apos) [] [] cpos => name == "pop" && noSuper o && (apos.endLine == cpos.line) && r sc (.e o O)
    | _ => false
  | .expr A => !isComp e && r sc (.e e A)
  | _ => false
def ckS1 (r : Sv → Qy → Bool) (sc : Sv) (s : S) (st : Stmt) : Bool :=
  match s, st with
  | .ret A, .Return (some e) _ => r sc (.e e A)
  | .retN, .Return none _ => true
  | .cont, .Continue _ => true
  | .pass, .Pass _ => true
  | .aug i o A, .AugAssign (.Name x _) op e _ => decide (t.N[i]? = some x) && locB sc.so x && r sc (.e e A) && (match op, o with
    | .Sub, .sub => true
    | .Add, .add => true
    | _, _ => false)
  | s, .Assign [tg] e _ => ckAsg t r sc tg e s
  | s, .Expr e _ => ckExpr r sc e s
  | _, _ => false
mutual
def ckS (r : Sv → Qy → Bool) (sc : Sv) : S → Stmt → Bool
  | .bad, _ => true
  | .ife C A B, st => match st with
    | .If c a b _ => r sc (.t c C) && ckSs r sc A a && ckSs r sc B b
    | _ => false
  | .whl C B, st => match st with
    | .While c b [] _ => r sc (.t c C) && ckSs r sc B b
    | _ => false
  | .for_ tg it B, st => match st with
    | .For tge iter b [] _ => !isSet iter && r sc (.it tge iter it) && ckTg t sc tg tge && ckSs r sc B b
    | _ => false
  | s, st => ckS1 t r sc s st
def ckSs (r : Sv → Qy → Bool) (sc : Sv) : Ss → List Stmt → Bool
  | .nil, [] => true
  | .cons s ss, st :: sts => ckS r sc s st && ckSs r sc ss sts
  | _, _ => false
end
end

section
variable {t : Tab} {P : Prog} {cl : Nat → List D → Store → R D} {k : Nat} {r : Sv → Qy → Bool} {X : Cx} {T : Txt} {W : WX} {sc : Sv}
theorem ckSetC_ok (hr : ∀ sc q, r sc q = true → Snd t P cl k sc q) (G : GoodS t P cl k X T W sc) {i : Nat} {x : Str} {p pos : Pos} {e : Expr} {A : E} (h1 : t.N[i]? = some x) (hl : lcl sc.sc x = true) (hsw : swapsWith e (some (.Name x p)) pos.line X.env = pure true) (h : ckSetC t r sc e A = true) :
    PS X (.Assign [.Name x p] e pos) (tS X.K T P cl W (.set i A)) := by
  have g := G.g
  have hx := (g.slot h1).1
  unfold ckSetC at h
  have c1 : ∀ {is : List Nat} {tg : Tg} {it : It} {c x : E}, ckL t r sc e (.comp is tg it c x) = true → ∃ elt tge iter ifs scope pos, e = .ListComp elt [⟨tge, iter, ifs, 0⟩] scope pos := fun {is tg it c x} h => by
    unfold ckL at h
    split at h <;> first | contradiction | exact ⟨_, _, _, _, _, _, rfl⟩ | cases h
  have c2 : ∀ {is is2 : List Nat} {tg tg2 : Tg} {it it2 : It} {x : E}, ckL t r sc e (.comp2 is is2 tg it tg2 it2 x) = true → ∃ elt tge iter tge2 iter2 scope pos, e = .ListComp elt [⟨tge, iter, [], 0⟩, ⟨tge2, iter2, [], 0⟩] scope pos := fun {is is2 tg tg2 it it2 x} h => by
    unfold ckL at h
    split at h <;> first | contradiction | exact ⟨_, _, _, _, _, _, _, rfl⟩ | cases h
  split at h
  · obtain ⟨elt, tge, iter, ifs, scope, p2, rfl⟩ := c1 h
    obtain ⟨own, rfl, hi, ok, hsl, C, hs⟩ := comp1_ok hr g h
    exact ss_setC g.calm g.ndX hx (g.lcl hl) hsw hi ok hsl C hs (.inl rfl)
  · obtain ⟨elt, tge, iter, ifs, scope, p2, rfl⟩ := c1 h
    obtain ⟨own, rfl, hi, ok, hsl, C, hs⟩ := comp1_ok hr g h
    exact ss_setC g.calm g.ndX hx (g.lcl hl) hsw hi ok hsl C hs (.inr rfl)
  · obtain ⟨elt, tge, iter, tge2, iter2, scope, p2, rfl⟩ := c2 h
    obtain ⟨own, rfl, hi, ok, hv, hsl, hsl2, C, hs, hs2⟩ := comp2_ok hr g h
    exact ss_setC2 g.calm g.ndX hx (g.lcl hl) hsw hi ok hv hsl hsl2 C hs hs2 (.inl rfl)
  · obtain ⟨elt, tge, iter, tge2, iter2, scope, p2, rfl⟩ := c2 h
    obtain ⟨own, rfl, hi, ok, hv, hsl, hsl2, C, hs, hs2⟩ := comp2_ok hr g h
    exact ss_setC2 g.calm g.ndX hx (g.lcl hl) hsw hi ok hv hsl hsl2 C hs hs2 (.inr rfl)
  · refine PS.bad ?_
    rintro D σ H ⟨m, ρ, S, s, h⟩
    rw [exec, ev] at h
    exact h
  · cases h
theorem swB_lcl {sc : Scope} {x : Str} {p : Pos} {e : Expr} (h : swB sc x p e = true) : lcl sc x = true := by
  unfold swB at h
  split at h
  · simp only [Bool.and_eq_true] at h
    exact h.1.1
  · cases h
theorem okComp_ok {e : Expr} (h : okComp e = true) : isComp e = true → ∃ a b c d, e = .ListComp a b c d := by
  intro z
  cases e <;> first | (cases z; done) | (cases h; done) | exact ⟨_, _, _, _, rfl⟩
theorem sole_no {e tg : Expr} {l : Nat} {env : PySem.Env} (h : ∀ x p, tg ≠ .Name x p) : swapsWithSole [tg] e l env = pure false := comp_not h
theorem ckAsg_ok (hr : ∀ sc q, r sc q = true → Snd t P cl k sc q) (G : GoodS t P cl k X T W sc) {tg e : Expr} {pos : Pos} {s : S} (h : ckAsg t r sc tg e s = true) : PS X (.Assign [tg] e pos) (tS X.K T P cl W s) := by
  have g := G.g
  unfold ckAsg at h
  split at h
  · rename_i i A x p
    simp only [Bool.and_eq_true, decide_eq_true_eq] at h
    obtain ⟨⟨⟨h1, h2⟩, h3⟩, h4⟩ := h
    have hsw := swB_ok (l := pos.line) g.scp G.kd (x := x) (p := p) (okComp_ok h3)
    split at h4
    · rename_i hb
      rw [hb] at hsw
      exact ckSetC_ok hr G h1 (swB_lcl hb) hsw h4
    · rename_i hb
      rw [Bool.not_eq_true] at hb
      rw [hb] at hsw
      obtain ⟨l1, l2⟩ := g.loc h2
      exact ss_set g.ndX (g.slot h1).1 l1 (hr _ _ h4 X T W g) hsw l2
  · split at h
    · simp only [Bool.and_eq_true, decide_eq_true_eq] at h
      obtain ⟨⟨⟨⟨h1, h2⟩, h3⟩, h4⟩, h5⟩ := h
      have h4' := h4
      unfold par2 at h4'
      simp only [Bool.and_eq_true] at h4'
      exact ss_par2 g.calm g.ndX (g.slot h1).1 (g.slot h2).1 h3 (g.lcl h4'.1.1.1.1.1.1) (g.lcl h4'.1.1.1.1.1.2) (hr _ _ h5 X T W g) (par2_ok g.scp G.kd h4)
    · simp only [Bool.and_eq_true, decide_eq_true_eq] at h
      obtain ⟨⟨⟨⟨⟨⟨⟨h1, h2⟩, h3⟩, h4⟩, h5⟩, h6⟩, h7⟩, h8⟩ := h
      have h7' := h7
      unfold par3 at h7'
      simp only [Bool.and_eq_true] at h7'
      exact ss_par3 g.calm g.ndX (g.slot h1).1 (g.slot h2).1 (g.slot h3).1 h4 h5 h6 (g.lcl h7'.1.1.1.1.1.1.1.1.1.1) (g.lcl h7'.1.1.1.1.1.1.1.1.1.2) (g.lcl h7'.1.1.1.1.1.1.1.1.2) (hr _ _ h8 X T W g) (par3_ok g.scp G.kd h7)
    · cases h
  · simp only [Bool.and_eq_true] at h
    obtain ⟨⟨h1, h2⟩, h3⟩ := h
    exact ss_unp (hr _ _ h3 X T W g) (ckTg_ok _ h2 X T W g) (sole_no fun x p z => by cases z) (swN_ok g.scp h1) rfl
  · rename_i O I A o i p
    simp only [Bool.and_eq_true, Bool.not_eq_true'] at h
    obtain ⟨⟨⟨h1, h2⟩, h3⟩, h4⟩ := h
    refine ss_sub (hr _ _ h2 X T W g) (hr _ _ h3 X T W g) (hr _ _ h4 X T W g) (fun v => ?_) (sole_no fun x p z => by cases z) (by cases e <;> rfl) rfl
    cases i <;> first | rfl | cases h1
  · rename_i f A o name p
    simp only [Bool.and_eq_true, decide_eq_true_eq] at h
    obtain ⟨⟨h1, h2⟩, h3⟩ := h
    have e1 := g.at_ _ _ h1
    subst e1
    exact ss_setf (hr _ _ h3 X T W g) (hr _ _ h2 X T W g) (fun c hc => g.fl c _ hc) (comp_not fun x p z => by cases z)
  · cases h
theorem ckExpr_ok (hr : ∀ sc q, r sc q = true → Snd t P cl k sc q) (G : GoodS t P cl k X T W sc) {e : Expr} {pos : Pos} {s : S} (h : ckExpr r sc e s = true) : PS X (.Expr e pos) (tS X.K T P cl W s) := by
  have g := G.g
  unfold ckExpr at h
  split at h
  · split at h
    · exact ss_doc
    · cases h
  · split at h
    · simp only [Bool.and_eq_true, Bool.not_eq_true'] at h
      obtain ⟨⟨⟨⟨⟨h1, h2⟩, h3⟩, h4⟩, h5⟩, h6⟩ := h
      obtain rfl := eq_of_beq h1
      exact ss_app (hr _ _ h5 X T W g) (hr _ _ h6 X T W g) (superN h2) (by rw [star_cons h4]; rfl) h3 (star_cons h4) rfl
    · cases h
  · split at h
    · simp only [Bool.and_eq_true, Bool.not_eq_true'] at h
      obtain ⟨⟨⟨⟨⟨h1, h2⟩, h3⟩, h4⟩, h5⟩, h6⟩ := h
      obtain rfl := eq_of_beq h1
      exact ss_ext (hr _ _ h5 X T W g) (hr _ _ h6 X T W g) (superN h2) (by rw [star_cons h4]; rfl) h3 (star_cons h4) rfl
    · cases h
  · split at h
    · simp only [Bool.and_eq_true] at h
      obtain ⟨⟨⟨h1, h2⟩, h3⟩, h4⟩ := h
      obtain rfl := eq_of_beq h1
      exact ss_pop (hr _ _ h4 X T W g) (superN h2) h3 rfl
    · cases h
  · rw [Bool.and_eq_true, Bool.not_eq_true'] at h
    exact ss_expr (hr _ _ h.2 X T W g) (comp_no h.1)
  · cases h
theorem ckS1_ok (hr : ∀ sc q, r sc q = true → Snd t P cl k sc q) (G : GoodS t P cl k X T W sc) {s : S} {st : Stmt} (h : ckS1 t r sc s st = true) : PS X st (tS X.K T P cl W s) := by
  unfold ckS1 at h
  split at h
  · exact ss_ret (hr _ _ h X T W G.g)
  · exact ss_retN
  · exact ss_cont
  · exact ss_pass
  · simp only [Bool.and_eq_true, decide_eq_true_eq] at h
    obtain ⟨⟨⟨h1, h2⟩, h3⟩, h4⟩ := h
    obtain ⟨l1, l2⟩ := G.g.loc h2
    split at h4
    · exact ss_aug G.g.ndX (G.g.slot h1).1 l1 (hr _ _ h3 X T W G.g) ip_sub l2 (.inl ⟨rfl, rfl⟩)
    · exact ss_aug G.g.ndX (G.g.slot h1).1 l1 (hr _ _ h3 X T W G.g) ip_add l2 (.inr ⟨rfl, rfl⟩)
    · cases h4
  · exact ckAsg_ok hr G h
  · exact ckExpr_ok hr G h
  · cases h
mutual
theorem ckS_ok (hr : ∀ sc q, r sc q = true → Snd t P cl k sc q) (G : GoodS t P cl k X T W sc) : ∀ (s : S) {st : Stmt}, ckS t r sc s st = true → PS X st (tS X.K T P cl W s)
  | .bad, st, _ => ss_bad
  | .ife C A B, st, h => by
    unfold ckS at h
    split at h
    · simp only [Bool.and_eq_true] at h
      exact ss_if (hr _ _ h.1.1 X T W G.g) (ckSs_ok hr G A h.1.2) (ckSs_ok hr G B h.2)
    · cases h
  | .whl C B, st, h => by
    unfold ckS at h
    split at h
    · simp only [Bool.and_eq_true] at h
      exact ss_while G.own (hr _ _ h.1 X T W G.g) (ckSs_ok hr G B h.2)
    · cases h
  | .for_ tg it B, st, h => by
    unfold ckS at h
    split at h
    · simp only [Bool.and_eq_true, Bool.not_eq_true'] at h
      exact ss_for G.own G.g.calm (hr _ _ h.1.1.2 X T W G.g) (ckTg_ok tg h.1.2 X T W G.g) (ckSs_ok hr G B h.2) (noset h.1.1.1)
    · cases h
  | .set _ _, st, h | .par _ _, st, h | .unp _ _, st, h | .sub _ _ _, st, h | .setf _ _, st, h | .app _ _, st, h | .ext _ _, st, h | .pop _, st, h | .expr _, st, h | .raise _ _, st, h | .try_ _ _, st, h
  | .aug _ _ _, st, h | .ret _, st, h | .retN, st, h | .cont, st, h | .pass, st, h => by
    unfold ckS at h
    exact ckS1_ok hr G h
theorem ckSs_ok (hr : ∀ sc q, r sc q = true → Snd t P cl k sc q) (G : GoodS t P cl k X T W sc) : ∀ (s : Ss) {sts : List Stmt}, ckSs t r sc s sts = true → PSs X sts (tSs X.K T P cl W s)
  | .nil, sts, h => by
    cases sts with
    | nil => exact sss_nil
    | cons _ _ => unfold ckSs at h; cases h
  | .cons s ss, sts, h => by
    cases sts with
    | nil => unfold ckSs at h; cases h
    | cons st sts =>
      unfold ckSs at h
      rw [Bool.and_eq_true] at h
      exact sss_cons (ckS_ok hr G s h.1) (ckSs_ok hr G ss h.2)
end
end
end RG
set_option Elab.async false
set_option linter.all false
set_option maxRecDepth 100000
set_option maxHeartbeats 2000000
/-! Every def of the text does what the small language says. -/
namespace RG
open PySem PySem.Spec PyProof.Rows L2

section
variable {K : PySem.W.Frag} {T : Txt} {m m' : List Addr} {H : Hp} {n : Nat}
mutual
/-- seen from other cells, the first n the same -/
theorem Rep.sel (hm : ∀ i, i < n → m'[i]? = m[i]?) (hs : ∀ a ∈ m', a ∈ m) : ∀ {v : V} {d : D}, Rep K T m H v d → d.lt n = true → Rep K T m' H v d
  | _, _, .non, _ => .non
  | _, _, .bl b, _ => .bl b
  | _, _, .int i, _ => .int i
  | _, _, .str x, _ => .str x
  | _, _, .tup r k h, l => .tup r ⟨fun z => k.1 (hs _ z), k.2⟩ (Reps.sel hm hs h (by rw [D.lt] at l; exact l))
  | _, _, .tupK r h, l => .tupK r (Reps.sel hm hs h (by rw [D.lt] at l; exact l))
  | _, _, .lst r k h, l => .lst r ⟨fun z => k.1 (hs _ z), k.2⟩ (Reps.sel hm hs h (by rw [D.lt] at l; exact l))
  | _, _, .scr r k h, l => .scr r ⟨fun z => k.1 (hs _ z), k.2⟩ (Reps.sel hm hs h (by rw [D.lt] at l; exact l))
  | _, _, .scrK r h, l => .scrK r (Reps.sel hm hs h (by rw [D.lt] at l; exact l))
  | _, _, .ref h, l => .ref (by rw [D.lt] at l; rw [hm _ (of_decide_eq_true l)]; exact h)
  | _, _, .obj r k f, l => .obj r ⟨fun z => k.1 (hs _ z), k.2⟩ (RepF.sel hm hs f (by rw [D.lt] at l; exact l))
  | _, _, .fn f, _ => .fn f
theorem Reps.sel (hm : ∀ i, i < n → m'[i]? = m[i]?) (hs : ∀ a ∈ m', a ∈ m) : ∀ {vs : List V} {ds : List D}, Reps K T m H vs ds → D.lts n ds = true → Reps K T m' H vs ds
  | _, _, .nil, _ => .nil
  | _, _, .cons h r, l => by
    rw [D.lts, Bool.and_eq_true] at l
    exact .cons (Rep.sel hm hs h l.1) (Reps.sel hm hs r l.2)
theorem RepF.sel (hm : ∀ i, i < n → m'[i]? = m[i]?) (hs : ∀ a ∈ m', a ∈ m) : ∀ {fs : List (Str × V)} {ks : List Nat} {ds : List D}, RepF K T m H fs ks ds → D.lts n ds = true → RepF K T m' H fs ks ds
  | _, _, _, .nil, _ => .nil
  | _, _, _, .cons h r, l => by
    rw [D.lts, Bool.and_eq_true] at l
    exact .cons (Rep.sel hm hs h l.1) (RepF.sel hm hs r l.2)
end
theorem CellOk.sel (hm : ∀ i, i < n → m'[i]? = m[i]?) (hs : ∀ a ∈ m', a ∈ m) {a : Addr} {c : Cell} (h : CellOk K T m H a c) (l : c.lt n = true) : CellOk K T m' H a c := by
  cases c with
  | lst ds => obtain ⟨vs, q, r⟩ := h; exact ⟨vs, q, r.sel hm hs l⟩
  | ins c ks ds => obtain ⟨dx, fs, q, r⟩ := h; exact ⟨dx, fs, q, r.sel hm hs l⟩
  | dct _ _ => exact h.elim
end

/-- a def of the text -/
structure FnRow where
  st : Stmt
  x : Str
  qual : Str
  n : Nat
  N : List Str
  body : Ss
  ro : Bool := false
def scB (N ps : List Str) (sc : Scope) : Bool :=
  (match sc.kind with | .function => true | _ => false) && !sc.isCoroutine && !sc.isGenerator && decide N.Nodup && decide (N.take ps.length = ps) && (ps.all fun x => locB sc x) && sc.names.all fun y => match y.2 with
    | .free => false
    | _ => true
theorem scB_ok {N ps : List Str} {sc : Scope} (h : scB N ps sc = true) : FnScope N ps sc := by
  unfold scB at h
  simp only [Bool.and_eq_true, Bool.not_eq_true', decide_eq_true_eq, List.all_eq_true] at h
  obtain ⟨⟨⟨⟨⟨⟨h1, h2⟩, h3⟩, h4⟩, h5⟩, h6⟩, h7⟩ := h
  refine ⟨?_, h2, h3, h4, h5, fun x hx => ?_, fun y hy z => ?_⟩
  · split at h1
    · assumption
    · cases h1
  · have := h6 x hx
    unfold locB at this
    split at this
    · exact .inl (by assumption)
    · exact .inr (by assumption)
    · cases this
  · have := h7 y hy
    rw [z] at this
    cases this
def rowB (gk : List (Str × GK)) (att : List Str) (R : FnRow) : Bool :=
  scB R.N (R.N.take R.n) (defScope R.st) && decide (R.n ≤ R.N.length) && (R.N.all fun x => !(x == ("__debug__" : Str)) && !(x == ("__classdict__" : Str))) &&
    ckSs ⟨R.N, gk, att⟩ (ck ⟨R.N, gk, att⟩ 60) ⟨defScope R.st, defScope R.st⟩ R.body (defBody R.st)

section
variable (rows : List (Nat × FnRow)) (gk : List (Str × GK)) (att : List Str) (P : Prog) (prog : Program) (w : World) (K : PySem.W.Frag) (mg : Str → Option Value) (base : Heap) (T : Txt)
def GkOk' : GK → Str → Prop
  | .fn f, x => mg x = some (.ref (T.fad f))
  | .cls c, x => mg x = some (.ref (T.cls c))
  | .no, x => mg x = none
  | .bi id, x => mg x = some (.builtin id)
/-- what stands behind the top -/
structure LawOk : Prop where
  fnP : ∀ f, P.fn f = (rows.lookup f).map fun R => ⟨R.n, R.N.length, R.body, R.ro⟩
  fun_ : ∀ f R, rows.lookup f = some R → ∃ fd, Fun K R.x R.qual R.st (T.fad f) fd ∧ L2.Binds K fd (R.N.take R.n) []
  gl : ∀ x q, gk.lookup x = some q → GkOk' mg T q x ∧ x ≠ "__name__" ∧ (x == ("__debug__" : Str)) = false
  gf : ∀ x f, gk.lookup x = some (.fn f) → (rows.lookup f).isSome = true
  me : ∀ m c f, P.meth c m = some f → Cls K (T.cls c) ∧ Meth K (T.cls c) (T.att m) (T.fad f) ∧ (rows.lookup f).isSome = true
  ini : ∀ x c, gk.lookup x = some (.cls c) → ∃ f, P.init c = some f ∧ Mk K (T.cls c) (T.fad f) ∧ (rows.lookup f).isSome = true
  fl : ∀ c f, P.fok c f = true → Cls K (T.cls c) ∧ NoAttr K (T.cls c) (T.att f)
  at_ : ∀ i x, att[i]? = some x → T.att i = x
  ck : ∀ f R, rows.lookup f = some R → rowB gk att R = true
/-- what a def promises at a depth -/
def FnLv (d f : Nat) : Prop := (∃ n fd ps, FnOk prog w K mg base (L2.CX prog w) (2 * d) (T.fad f) fd ps (spF K T (callF P d) f n) ∧ L2.Binds K fd ps [] ∧ ∀ ds S, callF P d f ds S ≠ none → ds.length = n) ∧ PySem.W.keepIn K (.ref (T.fad f)) = true
end
section
variable {rows : List (Nat × FnRow)} {gk : List (Str × GK)} {att : List Str} {P : Prog} {prog : Program} {w : World} {K : PySem.W.Frag} {mg : Str → Option Value} {base : Heap} {T : Txt}
theorem start_get {N : List Str} {vs : List V} {i : Nat} {v : V} (h : vs[i]? = some v) : (L2.start N vs)[i]? = some (some v) := by
  unfold L2.start
  rw [List.getElem?_append_left (by rw [List.length_map]; exact (List.getElem?_eq_some_iff.mp h).1), List.getElem?_map, h]
  rfl
theorem sim_start {m : List Addr} {S : Store} {H : Hp} {vs : List V} {ds : List D} {N : List Str} {n k : Nat} (s : StOk K T m S H) (r : Reps K T m H vs ds) (hn : ds.length = n) (hk : N.length = k) : Sim K T m (ds.map some ++ List.replicate (k - n) none) S (L2.start N vs) H := by
  refine ⟨s, ?_, fun i d h => ?_⟩
  · unfold L2.start
    simp only [List.length_append, List.length_map, List.length_replicate, r.length, hn, hk]
  · by_cases hi : i < ds.length
    · rw [List.getElem?_append_left (by rw [List.length_map]; exact hi), List.getElem?_map] at h
      cases e : ds[i]? with
      | none => rw [e] at h; cases h
      | some d' =>
        rw [e] at h
        have h : some (some d') = some (some d) := h
        cases h
        obtain ⟨v, hv, rv⟩ := r.get e
        exact ⟨v, start_get hv, rv⟩
    · rw [List.getElem?_append_right (by rw [List.length_map]; omega), List.getElem?_replicate] at h
      split at h <;> cases h
theorem mapO_rep {m1 m2 : List Addr} {H : Hp} {f : D → Option D} (hf : ∀ {v : V} {d d' : D}, f d = some d' → Rep K T m1 H v d → Rep K T m2 H v d') : ∀ {vs : List V} {ds ds' : List D}, mapO f ds = some ds' → Reps K T m1 H vs ds → Reps K T m2 H vs ds'
  | _, [], ds', h, .nil => by cases h; exact .nil
  | _, d :: ds, ds', h, .cons r q => by
    unfold mapO at h
    split at h
    · rename_i y ys e1 e2
      cases h
      exact .cons (hf e1 r) (mapO_rep hf e2 q)
    · cases h
theorem mapO_repF {m1 m2 : List Addr} {H : Hp} {f : D → Option D} (hf : ∀ {v : V} {d d' : D}, f d = some d' → Rep K T m1 H v d → Rep K T m2 H v d') : ∀ {fs : List (Str × V)} {ks : List Nat} {ds ds' : List D}, mapO f ds = some ds' → RepF K T m1 H fs ks ds → RepF K T m2 H fs ks ds'
  | _, _, [], ds', h, .nil => by cases h; exact .nil
  | _, _, d :: ds, ds', h, .cons r q => by
    unfold mapO at h
    split at h
    · rename_i y ys e1 e2
      cases h
      exact .cons (hf e1 r) (mapO_repF hf e2 q)
    · cases h
theorem frz_rep {m' : List Addr} {S' : Store} {H : Hp} {n : Nat} (s : StOk K T m' S' H) : ∀ (k : Nat) {v : V} {d d' : D}, frzD n S' k d = some d' → Rep K T m' H v d → Rep K T (m'.take n) H v d'
  | 0, _, _, _, h, _ => by cases h
  | k + 1, v, d, d', h, r => by
    have ih : ∀ {v : V} {d d' : D}, frzD n S' k d = some d' → Rep K T m' H v d → Rep K T (m'.take n) H v d' := fun h r => frz_rep s k h r
    have no : ∀ {a : Addr}, Outs T m' a → Outs T (m'.take n) a := fun q => ⟨fun z => q.1 (List.mem_of_mem_take z), q.2⟩
    cases d with
    | ref i =>
      unfold frzD at h
      simp only at h
      split at h
      · rename_i hi
        cases h
        cases r with
        | ref hm => exact .ref (by rw [List.getElem?_take_of_lt hi]; exact hm)
      · rename_i hi
        cases r with
        | ref hm =>
          rename_i a
          split at h
          · rename_i xs ec
            obtain ⟨b, hb, q, _⟩ := s.get ec
            rw [hm] at hb
            cases hb
            obtain ⟨vs, ha, rr⟩ := q
            cases e : mapO (frzD n S' k) xs with
            | none => rw [e] at h; cases h
            | some ys =>
              rw [e] at h
              cases h
              refine .lst ha ⟨fun z => ?_, fun z => (s.hid a z).2 (List.mem_of_getElem? hm)⟩ (mapO_rep ih e rr)
              obtain ⟨j, hj⟩ := List.getElem?_of_mem z
              have hjn : j < n := by
                have := (List.getElem?_eq_some_iff.mp hj).1
                rw [List.length_take] at this
                omega
              rw [List.getElem?_take_of_lt hjn] at hj
              obtain ⟨k1, e1⟩ := List.getElem?_eq_some_iff.mp hj
              obtain ⟨k2, e2⟩ := List.getElem?_eq_some_iff.mp hm
              have := (List.getElem_inj s.nd).mp (e1.trans e2.symm)
              omega
          · cases h
    | tup xs =>
      unfold frzD at h
      simp only at h
      cases e : mapO (frzD n S' k) xs with
      | none => rw [e] at h; cases h
      | some ys =>
        rw [e] at h
        cases h
        cases r with
        | tup ha k2 q => exact .tup ha (no k2) (mapO_rep ih e q)
        | tupK ha q => exact .tupK ha (mapO_rep ih e q)
    | lst xs =>
      unfold frzD at h
      simp only at h
      cases e : mapO (frzD n S' k) xs with
      | none => rw [e] at h; cases h
      | some ys =>
        rw [e] at h
        cases h
        cases r with
        | lst ha k2 q => exact .lst ha (no k2) (mapO_rep ih e q)
    | scr xs =>
      unfold frzD at h
      simp only at h
      cases e : mapO (frzD n S' k) xs with
      | none => rw [e] at h; cases h
      | some ys =>
        rw [e] at h
        cases h
        cases r with
        | scr ha k2 q => exact .scr ha (no k2) (mapO_rep ih e q)
        | scrK ha q => exact .scrK ha (mapO_rep ih e q)
    | obj c ks vs =>
      unfold frzD at h
      simp only at h
      cases e : mapO (frzD n S' k) vs with
      | none => rw [e] at h; cases h
      | some ys =>
        rw [e] at h
        cases h
        cases r with
        | obj ha k2 q => exact .obj ha (no k2) (mapO_repF ih e q)
    | non => cases h; cases r; exact .non
    | bl b => cases h; cases r; exact .bl b
    | int b => cases h; cases r; exact .int b
    | str b => cases h; cases r; exact .str b
    | fn b => cases h; cases r; exact .fn b
/-- the way back to the caller -/
theorem fin_ok {W : WX} {E : XK} {Q : VK} {m : List Addr} {S : Store} {H : Hp} (hl : m.length = S.length) (hW : ∀ cls dd σ H, E cls dd H → W cls dd σ H) (hW' : W = fun cls dd _ H => E cls dd H) {ro : Bool} {r : Option Out} (h : OkC K T m H (fin ro S.length r) Q E) : OkO K T W m H r { nx := fun _ H' => Q .non H', rt := Q } := by
  cases r with
  | none => exact h
  | some r => cases r with
    | ct ρ S' => exact h.elim
    | nx ρ S' =>
      intro m' σ' H' g s
      obtain ⟨g', e⟩ := g.cutTo hl.symm
      exact h (m'.take S.length) .non H' g' (s.st.cutTo _) .non
    | ex x ρ S' =>
      intro m' cls dd σ' H' g s rx
      subst hW'
      unfold fin at h
      simp only at h
      split at h
      · obtain ⟨g', e⟩ := g.cutTo hl.symm
        exact h (m'.take S.length) cls dd H' g' (s.st.cutTo _) rx
      · exact h.elim
    | rt d S' =>
      intro m' v H' g s r
      obtain ⟨g', e⟩ := g.cutTo hl.symm
      unfold fin at h
      simp only at h
      unfold retv at h
      split at h
      · rename_i hd
        exact h (m'.take S.length) v H' g' (s.cutTo _) (r.take hd)
      · rename_i hd
        split at h
        · split at h
          rotate_left
          · exact h.elim
          rename_i i
          cases ec : S'[i]? with
          | none => rw [ec] at h; exact h.elim
          | some c =>
            rw [ec] at h
            simp only at h
            split at h
            · rename_i hc
              cases r with
              | ref hm =>
                rename_i a
                have hi : S.length ≤ i := by
                  rw [D.lt] at hd
                  simpa using hd
                obtain ⟨a', ha', q, _⟩ := s.get ec
                rw [hm] at ha'
                cases ha'
                have hlen : (m'.take S.length).length = S.length := by
                  rw [e]; exact hl
                have nin : a ∉ m'.take S.length := fun z => by
                  obtain ⟨j, hj⟩ := List.getElem?_of_mem z
                  have hjl : j < S.length := by
                    have := (List.getElem?_eq_some_iff.mp hj).1
                    rw [hlen] at this
                    exact this
                  rw [List.getElem?_take_of_lt hjl] at hj
                  obtain ⟨k1, e1⟩ := List.getElem?_eq_some_iff.mp hj
                  obtain ⟨k2, e2⟩ := List.getElem?_eq_some_iff.mp hm
                  have := (List.getElem_inj s.nd).mp (e1.trans e2.symm)
                  omega
                have hsel : ∀ j, j < S.length → (m'.take S.length ++ [a])[j]? = m'[j]? := fun j hj => by
                  rw [List.getElem?_append_left (by rw [hlen]; exact hj), List.getElem?_take_of_lt hj]
                have hsub : ∀ b ∈ m'.take S.length ++ [a], b ∈ m' := fun b hb => by
                  rcases List.mem_append.mp hb with z | z
                  · exact List.mem_of_mem_take z
                  · have : b = a := by simpa using z
                    subst this
                    exact List.mem_of_getElem? hm
                refine h (m'.take S.length ++ [a]) _ H' ⟨?_, g.keep, fun b hb => ?_⟩ ⟨?_, fun j b c' h1 h2 => ?_, ?_, fun b hb => ?_⟩ (.ref ?_)
                · rw [e]; exact List.prefix_append _ _
                · exact g.new b (hsub b hb)
                · have hlS : S.length ≤ S'.length := by
                    rw [← s.len, ← hl]
                    exact g.pre.length_le
                  simp only [List.length_append, hlen, List.length_take, List.length_singleton]
                  omega
                · have hlS : S.length ≤ S'.length := by
                    rw [← s.len, ← hl]
                    exact g.pre.length_le
                  have ht : (S'.take S.length).length = S.length := by rw [List.length_take]; omega
                  by_cases hj : j < S.length
                  · rw [hsel j hj] at h1
                    rw [List.getElem?_append_left (by rw [ht]; exact hj), List.getElem?_take_of_lt hj] at h2
                    obtain ⟨q', l'⟩ := s.cell j b c' h1 h2
                    exact ⟨q'.sel hsel hsub (Cell.lt_mono (Nat.le_of_lt hj) c' l'), l'⟩
                  · have hlt := (List.getElem?_eq_some_iff.mp h1).1
                    rw [List.length_append, hlen, List.length_singleton] at hlt
                    have ej : j = S.length := by omega
                    subst ej
                    rw [List.getElem?_append_right (by rw [hlen]; exact Nat.le_refl _), hlen, Nat.sub_self] at h1
                    rw [List.getElem?_append_right (by rw [ht]; exact Nat.le_refl _), ht, Nat.sub_self] at h2
                    have h1' : a = b := by simpa using h1
                    have h2' : c = c' := by simpa using h2
                    subst h1' h2'
                    exact ⟨q.sel hsel hsub hc, hc⟩
                · rw [List.nodup_append]
                  refine ⟨s.nd.sublist (List.take_sublist _ _), by simp, fun x hx y hy z => ?_⟩
                  have : y = a := by simpa using hy
                  subst this; subst z
                  exact nin hx
                · obtain ⟨o, n⟩ := s.hid b hb
                  exact ⟨o, fun z => n (hsub b z)⟩
                · rw [List.getElem?_append_right (by rw [hlen]; exact Nat.le_refl _), hlen, Nat.sub_self]
                  rfl
            · exact h.elim
        · split at h
          · rename_i v' ev'
            exact h (m'.take S.length) v H' g' (s.cutTo _) (frz_rep s 20 ev' r)
          · exact h.elim
theorem dbgs {N : List Str} (h : (N.all fun x => !(x == ("__debug__" : Str)) && !(x == ("__classdict__" : Str))) = true) : ∀ x ∈ N, (x == ("__debug__" : Str)) = false ∧ (x == ("__classdict__" : Str)) = false := by
  intro x hx
  rw [List.all_eq_true] at h
  have := h x hx
  rw [Bool.and_eq_true, Bool.not_eq_true', Bool.not_eq_true'] at this
  exact this
theorem level_step (L : LawOk rows gk att P K mg T) {d : Nat} (IH : ∀ f, (rows.lookup f).isSome = true → FnLv P prog w K mg base T d f) {f : Nat} {R : FnRow} {fd : FuncData} (hR : rows.lookup f = some R) (F : Fun K R.x R.qual R.st (T.fad f) fd) :
    FnOk prog w K mg base (L2.CX prog w) (2 * (d + 1)) (T.fad f) fd (R.N.take R.n) (spF K T (callF P (d + 1)) f R.n) ∧ ∀ ds S, callF P (d + 1) f ds S ≠ none → ds.length = R.n := by
  have hck := L.ck f R hR
  unfold rowB at hck
  simp only [Bool.and_eq_true, decide_eq_true_eq] at hck
  obtain ⟨⟨⟨hsc, hnk⟩, hdb⟩, hbd⟩ := hck
  have SC := scB_ok hsc
  have hPf : P.fn f = some ⟨R.n, R.N.length, R.body, R.ro⟩ := by rw [L.fnP, hR]; rfl
  have hps : (R.N.take R.n).length = R.n := by rw [List.length_take]; omega
  refine ⟨F.okX SC (fun vs H Q E h => ?_) (fun cdv A outer s H vs Q E hr h => ?_), fun ds S h => ?_⟩
  · obtain ⟨l, m, ds, S, hl, st, r, _⟩ := h
    rw [r.length, hl, hps]
  · obtain ⟨l, m, ds, S, hl, st, r, h⟩ := h
    rw [callF, hPf] at h
    simp only at h
    rw [if_pos ⟨hl, hnk⟩] at h
    let X : Cx := cxOf (L2.CX prog w) prog w K mg base R.N R.qual (defScope R.st) (T.fad f) cdv A outer s H E
    let W : WX := fun cls dd _ H => E cls dd H
    have g : Good ⟨R.N, gk, att⟩ P (callF P d) (2 * d) X (T.hs l) W ⟨defScope R.st, defScope R.st⟩ := {
      hN := rfl
      nd := SC.nd
      dbg := dbgs hdb
      scp := rfl
      fnk := fun x h => ⟨rfl, h⟩
      lok := fun x h => h
      calm := rfl
      tk := takes_of rfl rfl rfl rfl
      room := hr
      gl := fun x q hq => by
        have := L.gl x q hq
        cases q <;> exact this
      fn := fun x f' hq => let ⟨e, kp⟩ := IH f' (L.gf x f' hq); ⟨e, kp⟩
      me := fun m' => ⟨fun c f' hq => let ⟨c1, c2, c3⟩ := L.me m' c f' hq; let ⟨e, kp⟩ := IH f' c3; ⟨c1, c2, ⟨e, kp⟩⟩⟩
      ini := fun x c hq => let ⟨f', e1, e2, e3⟩ := L.ini x c hq; let ⟨e, kp⟩ := IH f' e3; ⟨f', e1, e2, ⟨e, kp⟩⟩
      fl := L.fl
      at_ := L.at_ }
    have G : GoodS ⟨R.N, gk, att⟩ P (callF P d) (2 * d) X (T.hs l) W ⟨defScope R.st, defScope R.st⟩ := ⟨g, passes_of rfl, SC.kind⟩
    refine ⟨_, ckSs_ok (fun sc q hq => ck_ok 60 sc q hq) G R.body hbd, m, _, S, sim_start st r hl rfl, ?_⟩
    exact fin_ok (W := W) st.len (fun _ _ _ _ z => z) rfl h
  · by_cases hz : ds.length = R.n
    · exact hz
    · exfalso
      apply h
      rw [callF, hPf]
      simp only
      rw [if_neg (fun z => hz z.1)]
theorem level (L : LawOk rows gk att P K mg T) : ∀ d f, (rows.lookup f).isSome = true → FnLv P prog w K mg base T d f
  | 0, f, hf => by
    obtain ⟨R, hR⟩ := Option.isSome_iff_exists.mp hf
    obtain ⟨fd, F, b⟩ := L.fun_ f R hR
    refine ⟨⟨0, fd, _, ⟨fun vs H Q E h => ?_, fun A outer s H args us vs Q E hr he hb hv h => ?_⟩, b, fun ds S h => absurd rfl h⟩, F.kp⟩
    · obtain ⟨_, _, _, _, _, _, _, h⟩ := h
      exact h.elim
    · obtain ⟨_, _, _, _, _, _, _, h⟩ := h
      exact h.elim
  | d + 1, f, hf => by
    obtain ⟨R, hR⟩ := Option.isSome_iff_exists.mp hf
    obtain ⟨fd, F, b⟩ := L.fun_ f R hR
    obtain ⟨h1, h2⟩ := level_step L (level L d) hR F
    exact ⟨⟨R.n, fd, _, h1, b, h2⟩, F.kp⟩
end
end RG
set_option Elab.async false
set_option linter.all false
set_option maxRecDepth 100000
set_option maxHeartbeats 2000000
/-! From the facts behind the top to the law. -/
namespace RG
open PySem PySem.Spec PyProof.Rows L2

def AllL {α : Type} (p : α → Prop) : List α → Prop
  | [] => True
  | x :: xs => p x ∧ AllL p xs
theorem AllL.mem {α : Type} {p : α → Prop} : ∀ {l : List α}, AllL p l → ∀ x ∈ l, p x
  | [], _, _, h => by cases h
  | y :: l, h, x, hx => by
    rcases List.mem_cons.mp hx with z | z
    · subst z; exact h.1
    · exact AllL.mem h.2 x z
def BindsH (R : FnRow) : Prop := ∀ (kV doc pm : Value) (an : Option Addr) (cdv ct : Value) (us : List Value), us.length = (R.N.take R.n).length → bindArgs (PySem.W.fnOf R.x R.qual (defArgs R.st) (defBody R.st) (defScope R.st) .none kV doc pm an cdv ct) ⟨us, []⟩ = pure ((R.N.take R.n).zip us)
/-- names of attributes -/
def attOf (att : List Str) (i : Nat) : Str := match att[i]? with
  | some x => x
  | none => ⟨Array.replicate (i + 1000) 0⟩
def attB (att : List Str) : Bool := decide att.Nodup && att.all fun x => decide (x.cps.size < 1000)
theorem att_inj {att : List Str} (h : attB att = true) : ∀ i j, attOf att i = attOf att j → i = j := by
  unfold attB at h
  simp only [Bool.and_eq_true, decide_eq_true_eq, List.all_eq_true] at h
  obtain ⟨nd, sz⟩ := h
  intro i j e
  unfold attOf at e
  cases e1 : att[i]? with
  | none =>
    cases e2 : att[j]? with
    | none =>
      rw [e1, e2] at e
      have := congrArg (fun x : Str => x.cps.size) e
      simpa using this
    | some y =>
      rw [e1, e2] at e
      exfalso
      have q := sz y (List.mem_of_getElem? e2)
      have e : (⟨Array.replicate (i + 1000) 0⟩ : Str) = y := e
      rw [← e] at q
      simp at q
      omega
  | some x =>
    cases e2 : att[j]? with
    | none =>
      rw [e1, e2] at e
      exfalso
      have q := sz x (List.mem_of_getElem? e1)
      have e : x = (⟨Array.replicate (j + 1000) 0⟩ : Str) := e
      rw [e] at q
      simp at q
      omega
    | some y =>
      rw [e1, e2] at e
      have e : x = y := e
      subst e
      obtain ⟨k1, q1⟩ := List.getElem?_eq_some_iff.mp e1
      obtain ⟨k2, q2⟩ := List.getElem?_eq_some_iff.mp e2
      exact (List.getElem_inj nd).mp (q1.trans q2.symm)
def mkT (fads clss : List (Nat × Addr)) (att : List Str) (h : attB att = true) : Txt := ⟨fun c => (clss.lookup c).getD 0, attOf att, fun f => (fads.lookup f).getD 0, fun _ => "args", att_inj h, []⟩
def progOf (rows : List (Nat × FnRow)) (mt : List ((Nat × Nat) × Nat)) (it fl : List (Nat × Nat)) : Prog :=
  ⟨fun f => (rows.lookup f).map fun R => ⟨R.n, R.N.length, R.body, R.ro⟩, fun c m => mt.lookup (c, m), fun c => it.lookup c, fun a b => a == b, fun c f => fl.contains (c, f)⟩
def statB (rows : List (Nat × FnRow)) (gk : List (Str × GK)) (mt : List ((Nat × Nat) × Nat)) (it : List (Nat × Nat)) : Bool :=
  (gk.all fun p => !(p.1 == ("__name__" : Str)) && !(p.1 == ("__debug__" : Str)) && match p.2 with
    | .fn f => (rows.lookup f).isSome
    | .cls c => (it.lookup c).isSome
    | _ => true) && (mt.all fun e => (rows.lookup e.2).isSome) && it.all fun e => (rows.lookup e.2).isSome
theorem lookup_mem {α β : Type} [BEq α] [LawfulBEq α] : ∀ {l : List (α × β)} {a : α} {b : β}, l.lookup a = some b → (a, b) ∈ l
  | [], _, _, h => by simp at h
  | (x, y) :: l, a, b, h => by
    rw [List.lookup_cons] at h
    cases e : a == x with
    | true =>
      rw [e] at h
      cases h
      obtain rfl := eq_of_beq e
      exact List.mem_cons_self
    | false =>
      rw [e] at h
      exact List.mem_cons_of_mem _ (lookup_mem h)
section
variable {rows : List (Nat × FnRow)} {gk : List (Str × GK)} {att : List Str} {mt : List ((Nat × Nat) × Nat)} {it fl : List (Nat × Nat)} {prog : Program} {w : World} {K : PySem.W.Frag} {mg : Str → Option Value} {base : Heap} {T : Txt}
theorem lawOk_of {fads clss : List (Nat × Addr)} {hatt : attB att = true} (hT : T = mkT fads clss att hatt) (hst : statB rows gk mt it = true) (hrows : AllL (fun p => rowB gk att p.2 = true) rows) (hb : AllL (fun p => BindsH p.2) rows) (hf : AllL (fun p => ∃ fd, Fun K p.2.x p.2.qual p.2.st (T.fad p.1) fd) rows)
    (hg : AllL (fun p => GkOk' mg T p.2 p.1) gk) (hm : AllL (fun e => Cls K (T.cls e.1.1) ∧ Meth K (T.cls e.1.1) (T.att e.1.2) (T.fad e.2)) mt)
    (hi : AllL (fun e => Mk K (T.cls e.1) (T.fad e.2)) it) (hfl : AllL (fun e => Cls K (T.cls e.1) ∧ NoAttr K (T.cls e.1) (T.att e.2)) fl) :
    LawOk rows gk att (progOf rows mt it fl) K mg T := by
  unfold statB at hst
  simp only [Bool.and_eq_true, List.all_eq_true, decide_eq_true_eq, Bool.not_eq_true'] at hst
  obtain ⟨⟨s1, s2⟩, s3⟩ := hst
  refine ⟨fun f => rfl, fun f R h => ?_, fun x q h => ?_, fun x f h => ?_, fun m c f h => ?_, fun x c h => ?_, fun c f h => ?_, fun i x h => ?_, fun f R hR => hrows.mem _ (lookup_mem hR)⟩
  · obtain ⟨fd, F⟩ := hf.mem _ (lookup_mem h)
    exact ⟨fd, F, F.binds (hb.mem _ (lookup_mem h))⟩
  · have hmem := lookup_mem h
    obtain ⟨⟨a, b⟩, _⟩ := s1 _ hmem
    exact ⟨hg.mem _ hmem, beq_eq_false_iff_ne.mp a, b⟩
  · have := (s1 _ (lookup_mem h)).2
    simpa using this
  · have hmem := lookup_mem (show mt.lookup (c, m) = some f from h)
    obtain ⟨a, b⟩ := hm.mem _ hmem
    exact ⟨a, b, s2 _ hmem⟩
  · have h1 := (s1 _ (lookup_mem h)).2
    simp only at h1
    cases e : it.lookup c with
    | none => rw [e] at h1; cases h1
    | some f => exact ⟨f, e, hi.mem _ (lookup_mem e), s3 _ (lookup_mem e)⟩
  · exact hfl.mem (c, f) (by
      have h : fl.contains (c, f) = true := h
      simpa using h)
  · subst hT
    show attOf att i = x
    unfold attOf
    rw [h]
/-- the law's promise -/
def spLaw (K : PySem.W.Frag) : Sp := fun vs H Q _ => ∃ (a : Addr) (ns : List Int), vs = [.ref a] ∧ SqL K H a (ns.map V.int) ∧ ns.length ≤ 63 ∧ (∀ z ∈ ns, Builtin.Int.intBits z ≤ 1048576) ∧ ∀ H', Q (.bl true) H'
theorem scr_rep {m : List Addr} {H : Hp} {a : Addr} {ns : List Int} (h : SqL K H a (ns.map V.int)) (ha : Outs T m a) : Rep K T m H (.ref a) (.scr (ns.map D.int)) := by
  have r : Reps K T m H (ns.map V.int) (ns.map D.int) := by
    clear h
    induction ns with
    | nil => exact .nil
    | cons n ns ih => exact .cons (.int n) ih
  rcases h with h | h
  · exact .scr h ha r
  · exact .scrK (fun H => .inr h) r
theorem law_fn (L : LawOk rows gk att (progOf rows mt it fl) K mg T) {d f : Nat} {R : FnRow} {fd : FuncData} (hR : rows.lookup f = some R) (hn : R.N.take R.n = [("script" : Str)]) (hFd : Fun K R.x R.qual R.st (T.fad f) fd)
    (hlaw : ∀ ns : List Int, ns.length ≤ 63 → (∀ z ∈ ns, Builtin.Int.intBits z ≤ 1048576) → ∃ S, callF (progOf rows mt it fl) (d + 1) f [.scr (ns.map D.int)] [] = some (.ok (.bl true) S)) :
    FnOk prog w K mg base (L2.CX prog w) (2 * (d + 1)) (T.fad f) fd ["script"] (spLaw K) := by
  have h1 := (level_step (prog := prog) (w := w) (base := base) L (level L d) hR hFd).1
  rw [hn] at h1
  have hRn : R.n = 1 := by
    have hck := L.ck f R hR
    unfold rowB at hck
    simp only [Bool.and_eq_true, decide_eq_true_eq] at hck
    have h2 := hck.1.1.2
    have h3 := congrArg List.length hn
    rw [List.length_take] at h3
    simp at h3
    omega
  refine h1.imp ?_
  rintro vs H Q E ⟨a, ns, rfl, hS, hl, hb, q⟩
  obtain ⟨S, e⟩ := hlaw ns hl hb
  refine ⟨[], [], [.scr (ns.map D.int)], [], by rw [hRn]; rfl, ⟨rfl, fun i b c h => by simp at h, List.nodup_nil, fun b hb => by cases hb⟩, .cons (scr_rep hS ⟨by simp, by show a ∉ []; simp⟩) .nil, ?_⟩
  rw [e]
  intro m' v H' g st r
  cases r
  exact q H'
/-- from all this the walk -/
theorem walk_law {l : PySem.W.OpenLaw} {q : Program} {loose : List Str} {XP : (Str → Option Value) → Heap → Prop} {YP : World → Heap → Prop} {dr : DefRec} {K : Params → PySem.W.Frag} {d f : Nat} {R : FnRow} (hn : l.most = some 63) (hdf : dr.params.defaults = []) (hr : Room (2 * (d + 1)) callerA)
    (hY : ∀ (w : World) (h : Heap), YP w h → (K w.params).In h) (hR : rows.lookup f = some R) (hRn : R.N.take R.n = [("script" : Str)]) (hB : BindsH R)
    (hlaw : ∀ ns : List Int, ns.length ≤ 63 → (∀ z ∈ ns, Builtin.Int.intBits z ≤ 1048576) → ∃ S, callF (progOf rows mt it fl) (d + 1) f [.scr (ns.map D.int)] [] = some (.ok (.bl true) S))
    (F : ∀ (w : World) (mg : Str → Option Value) (h : Heap), (K w.params).In h → h.Ns mainGlobals mg → ∃ T : Txt, LawOk rows gk att (progOf rows mt it fl) (K w.params) mg T ∧ mg dr.name = some (.ref (T.fad f))) :
    PySem.W.WalkO q loose XP YP l.row.toRowW dr [] (fun f vs => PySem.call f vs) := by
  refine L2.walk_ofB (n := 63) (k := 2 * (d + 1)) (x := "script") (CX := fun w => L2.CX l.prog w) (sp := fun w => spLaw (K w.params)) hn (by decide) hdf hr hY (fun w mg fa h KX G hmg => ?_) (fun w H a ns hl hbits _ hS => ⟨a, ns, rfl, hS, hl, hbits, fun _ => rfl⟩) fun w H s e s' z => ?_
  · obtain ⟨T, L, e⟩ := F w mg h KX G
    rw [hmg] at e
    cases e
    obtain ⟨fd, Fd, _⟩ := L.fun_ f R hR
    refine ⟨fd, fun s u => ?_, fun base _ _ => law_fn L hR hRn Fd hlaw⟩
    obtain ⟨oc, od, kV, doc, pm, an, cdv, ct, osl, rfl, lk, hcd⟩ := Fd.ex
    have := hB kV doc pm an cdv ct [u] (by rw [hRn]; rfl)
    rw [hRn] at this
    exact .of_eq this
  · obtain ⟨_, _, _, _, _, _, _, _, _, _, _, _, z⟩ := z
    exact z.elim
end
end RG
set_option maxRecDepth 100000
set_option linter.all false
set_option Elab.async false
/-! The defs of all laws, read in the small language: printed by gen.py. -/
namespace RG
open PySem
def atts : List Str := [("is_zero" : Str), ("add" : Str), ("negative" : Str), ("one" : Str), ("multiply" : Str), ("zero" : Str), ("inverse" : Str), ("subtract" : Str), ("rational" : Str), ("is_element" : Str), ("base" : Str), ("fraction" : Str), ("functions" : Str), ("radicand" : Str), ("unit" : Str), ("half_slope" : Str), ("norm" : Str), ("mirrored" : Str), ("power" : Str), ("divide" : Str), ("derivative" : Str), ("lowered" : Str), ("lift" : Str), ("level" : Str), ("_crossed" : Str), ("trace" : Str), ("log_derivative" : Str), ("root" : Str), ("prime" : Str), ("roots_of" : Str), ("__init__" : Str), ("reason" : Str), ("what" : Str), ("inner" : Str), ("rest" : Str), ("all_of" : Str), ("square_count" : Str), ("get" : Str)]
/-- _wall -/
def B0 : Ss := (.cons (.whl (.lit (.bl true)) (.cons .pass
  .nil))
  .nil)
def F0 : Fn := ⟨1, 1, B0, false⟩
/-- trim -/
def B1 : Ss := (.cons (.set 2 (.bi .len (.cons (.var 1) .nil)))
  (.cons (.whl (.and (.bin .gt (.var 2) (.lit (.int 0))) (.meth (.var 0) 0 (.cons (.idx (.var 1) (.bin .sub (.var 2) (.lit (.int 1)))) .nil))) (.cons (.set 2 (.bin .sub (.var 2) (.lit (.int 1))))
  .nil))
  (.cons (.ret (.bi .tuple (.cons (.slc (.var 1) none (some ()) .bad (.var 2)) .nil)))
  .nil)))
def F1 : Fn := ⟨2, 3, B1, false⟩
/-- degree -/
def B2 : Ss := (.cons (.ret (.bin .sub (.bi .len (.cons (.var 0) .nil)) (.lit (.int 1))))
  .nil)
def F2 : Fn := ⟨1, 1, B2, false⟩
/-- last -/
def B3 : Ss := (.cons (.ife (.bin .eq (.bi .len (.cons (.var 0) .nil)) (.lit (.int 0))) (.cons .bad
  .nil) .nil)
  (.cons (.ret (.idx (.var 0) (.bin .sub (.bi .len (.cons (.var 0) .nil)) (.lit (.int 1)))))
  .nil))
def F3 : Fn := ⟨1, 1, B3, false⟩
/-- padd -/
def B5 : Ss := (.cons (.ife (.bin .lt (.bi .len (.cons (.var 1) .nil)) (.bi .len (.cons (.var 2) .nil))) (.cons (.par [1, 2] (.cons (.var 2) (.cons (.var 1) .nil)))
  .nil) .nil)
  (.cons (.set 3 (.own (.ofs (.var 1))))
  (.cons (.for_ (.tup [(.name 4), (.name 5)]) (.enum (.var 2)) (.cons (.sub (.var 3) (.var 4) (.meth (.var 0) 1 (.cons (.idx (.var 3) (.var 4)) (.cons (.var 5) .nil))))
  .nil))
  (.cons (.ret (.call 1 (.cons (.var 0) (.cons (.var 3) .nil))))
  .nil))))
def F5 : Fn := ⟨3, 6, B5, false⟩
/-- pneg -/
def B6 : Ss := (.cons (.ret (.bi .tuple (.cons (.frz (.comp [2] (.name 2) (.seq (.var 1)) (.lit (.bl true)) (.meth (.var 0) 2 (.cons (.var 2) .nil)))) .nil)))
  .nil)
def F6 : Fn := ⟨2, 3, B6, false⟩
/-- psub -/
def B7 : Ss := (.cons (.ret (.call 5 (.cons (.var 0) (.cons (.var 1) (.cons (.call 6 (.cons (.var 0) (.cons (.var 2) .nil))) .nil)))))
  .nil)
def F7 : Fn := ⟨3, 3, B7, false⟩
/-- pscale -/
def B8 : Ss := (.cons (.ife (.meth (.var 0) 0 (.cons (.var 2) .nil)) (.cons (.ret (.tup .nil))
  .nil) .nil)
  (.cons (.ife (.bin .eq (.var 2) (.meth (.var 0) 3 .nil)) (.cons (.ret (.bi .tuple (.cons (.var 1) .nil)))
  .nil) .nil)
  (.cons (.ret (.bi .tuple (.cons (.frz (.comp [3] (.name 3) (.seq (.var 1)) (.lit (.bl true)) (.meth (.var 0) 4 (.cons (.var 2) (.cons (.var 3) .nil))))) .nil)))
  .nil)))
def F8 : Fn := ⟨3, 4, B8, false⟩
/-- pmul -/
def B9 : Ss := (.cons (.ife (.or (.bin .eq (.bi .len (.cons (.var 1) .nil)) (.lit (.int 0))) (.bin .eq (.bi .len (.cons (.var 2) .nil)) (.lit (.int 0)))) (.cons (.ret (.tup .nil))
  .nil) .nil)
  (.cons (.ife (.or (.bin .eq (.bi .len (.cons (.var 1) .nil)) (.lit (.int 1))) (.bin .eq (.bi .len (.cons (.var 2) .nil)) (.lit (.int 1)))) (.cons (.ret (.ite (.bin .eq (.bi .len (.cons (.var 1) .nil)) (.lit (.int 1))) (.call 8 (.cons (.var 0) (.cons (.var 2) (.cons (.idx (.var 1) (.lit (.int 0))) .nil)))) (.call 8 (.cons (.var 0) (.cons (.var 1) (.cons (.idx (.var 2) (.lit (.int 0))) .nil))))))
  .nil) .nil)
  (.cons (.set 3 (.own (.rep (.frz (.disp (.cons (.meth (.var 0) 5 .nil) .nil))) (.bin .sub (.bin .add (.bi .len (.cons (.var 1) .nil)) (.bi .len (.cons (.var 2) .nil))) (.lit (.int 1))))))
  (.cons (.for_ (.tup [(.name 4), (.name 5)]) (.enum (.var 1)) (.cons (.ife (.meth (.var 0) 0 (.cons (.var 5) .nil)) (.cons .cont
  .nil) .nil)
  (.cons (.for_ (.tup [(.name 6), (.name 7)]) (.enum (.var 2)) (.cons (.sub (.var 3) (.bin .add (.var 4) (.var 6)) (.meth (.var 0) 1 (.cons (.idx (.var 3) (.bin .add (.var 4) (.var 6))) (.cons (.meth (.var 0) 4 (.cons (.var 5) (.cons (.var 7) .nil))) .nil))))
  .nil))
  .nil)))
  (.cons (.ret (.call 1 (.cons (.var 0) (.cons (.var 3) .nil))))
  .nil)))))
def F9 : Fn := ⟨3, 8, B9, false⟩
/-- pdivide -/
def B11 : Ss := (.cons (.ife (.bin .eq (.bi .len (.cons (.var 2) .nil)) (.lit (.int 0))) (.cons .bad
  .nil) .nil)
  (.cons (.set 3 (.bin .add (.bin .sub (.bi .len (.cons (.var 1) .nil)) (.bi .len (.cons (.var 2) .nil))) (.lit (.int 1))))
  (.cons (.ife (.bin .le (.var 3) (.lit (.int 0))) (.cons (.ret (.tup (.cons (.tup .nil) (.cons (.bi .tuple (.cons (.var 1) .nil)) .nil))))
  .nil) .nil)
  (.cons (.set 4 (.own (.ofs (.var 1))))
  (.cons (.set 5 (.bin .eq (.call 3 (.cons (.var 2) .nil)) (.meth (.var 0) 3 .nil)))
  (.cons (.set 6 (.ite (.var 5) (.meth (.var 0) 3 .nil) (.meth (.var 0) 6 (.cons (.call 3 (.cons (.var 2) .nil)) .nil))))
  (.cons (.set 7 (.own (.rep (.frz (.disp (.cons (.meth (.var 0) 5 .nil) .nil))) (.var 3))))
  (.cons (.for_ (.name 8) (.rng (.bin .sub (.var 3) (.lit (.int 1))) (.neg (.lit (.int 1))) (-1)) (.cons (.set 9 (.idx (.var 4) (.bin .sub (.bin .add (.var 8) (.bi .len (.cons (.var 2) .nil))) (.lit (.int 1)))))
  (.cons (.ife (.not (.var 5)) (.cons (.set 9 (.meth (.var 0) 4 (.cons (.var 9) (.cons (.var 6) .nil))))
  .nil) .nil)
  (.cons (.sub (.var 7) (.var 8) (.var 9))
  (.cons (.ife (.meth (.var 0) 0 (.cons (.var 9) .nil)) (.cons .cont
  .nil) .nil)
  (.cons (.for_ (.name 10) (.rng (.lit (.int 0)) (.bin .sub (.bi .len (.cons (.var 2) .nil)) (.lit (.int 1))) 1) (.cons (.sub (.var 4) (.bin .add (.var 8) (.var 10)) (.meth (.var 0) 7 (.cons (.idx (.var 4) (.bin .add (.var 8) (.var 10))) (.cons (.meth (.var 0) 4 (.cons (.var 9) (.cons (.idx (.var 2) (.var 10)) .nil))) .nil))))
  .nil))
  .nil))))))
  (.cons (.ret (.tup (.cons (.call 1 (.cons (.var 0) (.cons (.var 7) .nil))) (.cons (.call 1 (.cons (.var 0) (.cons (.slc (.var 4) none (some ()) .bad (.bin .sub (.bi .len (.cons (.var 2) .nil)) (.lit (.int 1)))) .nil))) .nil))))
  .nil)))))))))
def F11 : Fn := ⟨3, 11, B11, false⟩
/-- pquotient -/
def B12 : Ss := (.cons (.ife (.bin .eq (.bi .len (.cons (.var 2) .nil)) (.lit (.int 0))) (.cons (.ret (.lit .non))
  .nil) .nil)
  (.cons (.unp (.tup [(.name 3), (.name 4)]) (.call 11 (.cons (.var 0) (.cons (.var 1) (.cons (.var 2) .nil)))))
  (.cons (.ret (.ite (.bin .eq (.var 4) (.tup .nil)) (.var 3) (.lit .non)))
  .nil)))
def F12 : Fn := ⟨3, 5, B12, false⟩
/-- _law_state -/
def B93 : Ss := (.cons (.set 1 (.lit (.int 0)))
  (.cons (.set 2 (.lit (.int 1)))
  (.cons (.for_ (.name 3) (.seq (.slc (.var 0) none (some ()) .bad (.lit (.int 63)))) (.cons (.set 1 (.bin .add (.bin .mul (.var 1) (.lit (.int 1000003))) (.bi .abs (.cons (.var 3) .nil))))
  (.cons (.set 2 (.bin .mod (.bi .int (.cons (.bin .add (.bin .mul (.var 2) (.lit (.int 48271))) (.var 3)) .nil)) (.lit (.int 2147483647))))
  .nil)))
  (.cons (.ret (.own (.disp (.cons (.var 1) (.cons (.ite (.bin .ne (.var 2) (.lit (.int 1973665155))) (.var 2) (.lit (.int 7))) .nil)))))
  .nil))))
def F93 : Fn := ⟨1, 4, B93, true⟩
/-- _law_take -/
def B94 : Ss := (.cons (.ife (.bin .gt (.idx (.var 0) (.lit (.int 0))) (.lit (.int 0))) (.cons (.set 2 (.bin .mod (.bi .int (.cons (.idx (.var 0) (.lit (.int 0))) .nil)) (.var 1)))
  (.cons (.sub (.var 0) (.lit (.int 0)) (.bin .fdv (.idx (.var 0) (.lit (.int 0))) (.var 1)))
  (.cons (.ret (.var 2))
  .nil))) .nil)
  (.cons (.sub (.var 0) (.lit (.int 1)) (.bin .mod (.bi .int (.cons (.bin .add (.bin .mul (.idx (.var 0) (.lit (.int 1))) (.lit (.int 48271))) (.lit (.int 11))) .nil)) (.lit (.int 2147483647))))
  (.cons (.ret (.bin .mod (.bi .int (.cons (.bin .fdv (.idx (.var 0) (.lit (.int 1))) (.lit (.int 7))) .nil)) (.var 1)))
  .nil)))
def F94 : Fn := ⟨2, 3, B94, false⟩
/-- _law_odd -/
def B95 : Ss := (.cons (.ife (.bin .eq (.var 0) (.lit (.str "a word that nothing else is"))) (.cons (.ret (.lit (.bl true)))
  .nil) .nil)
  (.cons (.ret (.and (.bi (.isT [3, 4]) (.cons (.var 0) .nil)) (.bin .gt (.bi .len (.cons (.frz (.comp [1] (.name 1) (.seq (.var 0)) (.call 95 (.cons (.var 1) .nil)) (.var 1))) .nil)) (.lit (.int 0)))))
  .nil))
def F95 : Fn := ⟨1, 2, B95, false⟩
/-- _law_honest -/
def B96 : Ss := (.cons (.ret (.ite (.call 95 (.cons (.var 0) .nil)) (.lit (.str "odd")) (.var 0)))
  .nil)
def F96 : Fn := ⟨1, 1, B96, false⟩
/-- _law_is_whole -/
def B97 : Ss := (.cons (.ret (.and (.bi (.isT [0]) (.cons (.var 0) .nil)) (.not (.bi (.isT [1]) (.cons (.var 0) .nil)))))
  .nil)
def F97 : Fn := ⟨1, 1, B97, false⟩
/-- _law_same -/
def B98 : Ss := (.cons (.ife (.bi (.isT [3]) (.cons (.var 1) .nil)) (.cons (.ret (.and (.bi (.isT [3]) (.cons (.var 0) .nil)) (.and (.bin .eq (.bi .len (.cons (.var 0) .nil)) (.bi .len (.cons (.var 1) .nil))) (.bi .all (.cons (.frz (.comp [2] (.name 2) (.rng (.lit (.int 0)) (.bi .len (.cons (.var 1) .nil)) 1) (.lit (.bl true)) (.call 98 (.cons (.idx (.var 0) (.var 2)) (.cons (.idx (.var 1) (.var 2)) .nil))))) .nil)))))
  .nil) .nil)
  (.cons (.ife (.bi (.isT [4]) (.cons (.var 1) .nil)) (.cons (.ret (.and (.bi (.isT [4]) (.cons (.var 0) .nil)) (.and (.bin .eq (.bi .len (.cons (.var 0) .nil)) (.bi .len (.cons (.var 1) .nil))) (.bi .all (.cons (.frz (.comp [2] (.name 2) (.rng (.lit (.int 0)) (.bi .len (.cons (.var 1) .nil)) 1) (.lit (.bl true)) (.call 98 (.cons (.idx (.var 0) (.var 2)) (.cons (.idx (.var 1) (.var 2)) .nil))))) .nil)))))
  .nil) .nil)
  (.cons (.ife (.bi (.isT [1]) (.cons (.var 1) .nil)) (.cons (.ret (.and (.bi (.isT [1]) (.cons (.var 0) .nil)) (.bin .eq (.var 0) (.var 1))))
  .nil) .nil)
  (.cons (.ife (.bi (.isT [2]) (.cons (.var 1) .nil)) (.cons (.ret (.and (.bi (.isT [2]) (.cons (.var 0) .nil)) (.bin .eq (.var 0) (.var 1))))
  .nil) .nil)
  (.cons (.ife (.isN false (.var 1)) (.cons (.ret (.isN false (.var 0)))
  .nil) .nil)
  (.cons (.ret (.and (.call 97 (.cons (.var 0) .nil)) (.bin .eq (.var 0) (.var 1))))
  .nil))))))
def F98 : Fn := ⟨2, 3, B98, false⟩
/-- _law_says -/
def B99 : Ss := (.cons (.ret (.and (.bi (.isT [1]) (.cons (.var 0) .nil)) (.bin .eq (.var 0) (.var 1))))
  .nil)
def F99 : Fn := ⟨2, 2, B99, false⟩
/-- _law_frac -/
def B100 : Ss := (.cons (.par [2, 3] (.cons (.bi .abs (.cons (.var 0) .nil)) (.cons (.bi .abs (.cons (.var 1) .nil)) .nil)))
  (.cons (.whl (.bin .ne (.var 3) (.lit (.int 0))) (.cons (.par [2, 3] (.cons (.var 3) (.cons (.bin .mod (.bi .int (.cons (.var 2) .nil)) (.var 3)) .nil)))
  .nil))
  (.cons (.set 2 (.ite (.bin .gt (.var 1) (.lit (.int 0))) (.var 2) (.neg (.var 2))))
  (.cons (.ret (.tup (.cons (.bin .fdv (.var 0) (.var 2)) (.cons (.bin .fdv (.var 1) (.var 2)) .nil))))
  .nil))))
def F100 : Fn := ⟨2, 4, B100, false⟩
/-- _law_plus -/
def B101 : Ss := (.cons (.ret (.call 100 (.cons (.bin .add (.bin .mul (.idx (.var 0) (.lit (.int 0))) (.idx (.var 1) (.lit (.int 1)))) (.bin .mul (.idx (.var 1) (.lit (.int 0))) (.idx (.var 0) (.lit (.int 1))))) (.cons (.bin .mul (.idx (.var 0) (.lit (.int 1))) (.idx (.var 1) (.lit (.int 1)))) .nil))))
  .nil)
def F101 : Fn := ⟨2, 2, B101, false⟩
/-- _law_times -/
def B102 : Ss := (.cons (.ret (.call 100 (.cons (.bin .mul (.idx (.var 0) (.lit (.int 0))) (.idx (.var 1) (.lit (.int 0)))) (.cons (.bin .mul (.idx (.var 0) (.lit (.int 1))) (.idx (.var 1) (.lit (.int 1)))) .nil))))
  .nil)
def F102 : Fn := ⟨2, 2, B102, false⟩
/-- _law_over -/
def B103 : Ss := (.cons (.ret (.call 100 (.cons (.bin .mul (.idx (.var 0) (.lit (.int 0))) (.idx (.var 1) (.lit (.int 1)))) (.cons (.bin .mul (.idx (.var 0) (.lit (.int 1))) (.idx (.var 1) (.lit (.int 0)))) .nil))))
  .nil)
def F103 : Fn := ⟨2, 2, B103, false⟩
/-- _law_fadd -/
def B105 : Ss := (.cons (.ret (.ite (.bin .eq (.var 0) (.lit (.int 0))) (.call 101 (.cons (.var 1) (.cons (.var 2) .nil))) (.bin .mod (.bi .int (.cons (.bin .add (.var 1) (.var 2)) .nil)) (.var 0))))
  .nil)
def F105 : Fn := ⟨3, 3, B105, false⟩
/-- _law_fmul -/
def B106 : Ss := (.cons (.ret (.ite (.bin .eq (.var 0) (.lit (.int 0))) (.call 102 (.cons (.var 1) (.cons (.var 2) .nil))) (.bin .mod (.bi .int (.cons (.bin .mul (.var 1) (.var 2)) .nil)) (.var 0))))
  .nil)
def F106 : Fn := ⟨3, 3, B106, false⟩
/-- _law_fneg -/
def B107 : Ss := (.cons (.ret (.ite (.bin .eq (.var 0) (.lit (.int 0))) (.tup (.cons (.neg (.idx (.var 1) (.lit (.int 0)))) (.cons (.idx (.var 1) (.lit (.int 1))) .nil))) (.bin .mod (.bi .int (.cons (.neg (.var 1)) .nil)) (.var 0))))
  .nil)
def F107 : Fn := ⟨2, 2, B107, false⟩
/-- _law_fnone -/
def B108 : Ss := (.cons (.ret (.ite (.bin .eq (.var 0) (.lit (.int 0))) (.tup (.cons (.lit (.int 0)) (.cons (.lit (.int 1)) .nil))) (.lit (.int 0))))
  .nil)
def F108 : Fn := ⟨1, 1, B108, false⟩
/-- _law_fint -/
def B109 : Ss := (.cons (.ret (.ite (.bin .eq (.var 0) (.lit (.int 0))) (.tup (.cons (.var 1) (.cons (.lit (.int 1)) .nil))) (.bin .mod (.bi .int (.cons (.var 1) .nil)) (.var 0))))
  .nil)
def F109 : Fn := ⟨2, 2, B109, false⟩
/-- _law_finv -/
def B110 : Ss := (.cons (.ife (.bin .eq (.var 0) (.lit (.int 0))) (.cons (.ret (.call 103 (.cons (.tup (.cons (.lit (.int 1)) (.cons (.lit (.int 1)) .nil))) (.cons (.var 1) .nil))))
  .nil) .nil)
  (.cons (.ret (.idx (.frz (.comp [2] (.name 2) (.rng (.lit (.int 1)) (.var 0) 1) (.bin .eq (.bin .mod (.bi .int (.cons (.bin .mul (.var 1) (.var 2)) .nil)) (.var 0)) (.lit (.int 1))) (.var 2))) (.lit (.int 0))))
  .nil))
def F110 : Fn := ⟨2, 3, B110, false⟩
/-- _law_pcut -/
def B111 : Ss := (.cons (.set 2 (.bi .len (.cons (.var 1) .nil)))
  (.cons (.whl (.and (.bin .gt (.var 2) (.lit (.int 0))) (.bin .eq (.idx (.var 1) (.bin .sub (.var 2) (.lit (.int 1)))) (.call 108 (.cons (.var 0) .nil)))) (.cons (.aug 2 .sub (.lit (.int 1)))
  .nil))
  (.cons (.ret (.bi .tuple (.cons (.slc (.var 1) none (some ()) .bad (.var 2)) .nil)))
  .nil)))
def F111 : Fn := ⟨2, 3, B111, false⟩
/-- _law_padd -/
def B112 : Ss := (.cons (.set 3 (.bi .max (.cons (.bi .len (.cons (.var 1) .nil)) (.cons (.bi .len (.cons (.var 2) .nil)) .nil))))
  (.cons (.unp (.tup [(.name 4), (.name 5)]) (.tup (.cons (.frz (.cat (.frz (.ofs (.var 1))) (.frz (.rep (.frz (.disp (.cons (.call 108 (.cons (.var 0) .nil)) .nil))) (.bin .sub (.var 3) (.bi .len (.cons (.var 1) .nil))))))) (.cons (.frz (.cat (.frz (.ofs (.var 2))) (.frz (.rep (.frz (.disp (.cons (.call 108 (.cons (.var 0) .nil)) .nil))) (.bin .sub (.var 3) (.bi .len (.cons (.var 2) .nil))))))) .nil))))
  (.cons (.ret (.call 111 (.cons (.var 0) (.cons (.frz (.comp [6] (.name 6) (.rng (.lit (.int 0)) (.var 3) 1) (.lit (.bl true)) (.call 105 (.cons (.var 0) (.cons (.idx (.var 4) (.var 6)) (.cons (.idx (.var 5) (.var 6)) .nil)))))) .nil))))
  .nil)))
def F112 : Fn := ⟨3, 7, B112, true⟩
/-- _law_pneg -/
def B113 : Ss := (.cons (.ret (.bi .tuple (.cons (.frz (.comp [2] (.name 2) (.seq (.var 1)) (.lit (.bl true)) (.call 107 (.cons (.var 0) (.cons (.var 2) .nil))))) .nil)))
  .nil)
def F113 : Fn := ⟨2, 3, B113, false⟩
/-- _law_psub -/
def B114 : Ss := (.cons (.ret (.call 112 (.cons (.var 0) (.cons (.var 1) (.cons (.call 113 (.cons (.var 0) (.cons (.var 2) .nil))) .nil)))))
  .nil)
def F114 : Fn := ⟨3, 3, B114, false⟩
/-- _law_pmul -/
def B115 : Ss := (.cons (.set 3 (.own (.rep (.frz (.disp (.cons (.call 108 (.cons (.var 0) .nil)) .nil))) (.bi .max (.cons (.lit (.int 0)) (.cons (.bin .sub (.bin .add (.bi .len (.cons (.var 1) .nil)) (.bi .len (.cons (.var 2) .nil))) (.lit (.int 1))) .nil))))))
  (.cons (.for_ (.name 4) (.rng (.lit (.int 0)) (.bi .len (.cons (.var 1) .nil)) 1) (.cons (.for_ (.name 5) (.rng (.lit (.int 0)) (.bi .len (.cons (.var 2) .nil)) 1) (.cons (.sub (.var 3) (.bin .add (.var 4) (.var 5)) (.call 105 (.cons (.var 0) (.cons (.idx (.var 3) (.bin .add (.var 4) (.var 5))) (.cons (.call 106 (.cons (.var 0) (.cons (.idx (.var 1) (.var 4)) (.cons (.idx (.var 2) (.var 5)) .nil)))) .nil)))))
  .nil))
  .nil))
  (.cons (.ret (.call 111 (.cons (.var 0) (.cons (.var 3) .nil))))
  .nil)))
def F115 : Fn := ⟨3, 6, B115, false⟩
/-- _law_pscale -/
def B116 : Ss := (.cons (.ret (.call 111 (.cons (.var 0) (.cons (.frz (.comp [3] (.name 3) (.seq (.var 1)) (.lit (.bl true)) (.call 106 (.cons (.var 0) (.cons (.var 3) (.cons (.var 2) .nil)))))) .nil))))
  .nil)
def F116 : Fn := ⟨3, 4, B116, false⟩
/-- _law_pdivide -/
def B117 : Ss := (.cons (.par [3, 4] (.cons (.own (.ofs (.var 1))) (.cons (.call 110 (.cons (.var 0) (.cons (.idx (.var 2) (.neg (.lit (.int 1)))) .nil))) .nil)))
  (.cons (.set 5 (.own (.rep (.frz (.disp (.cons (.call 108 (.cons (.var 0) .nil)) .nil))) (.bi .max (.cons (.lit (.int 0)) (.cons (.bin .add (.bin .sub (.bi .len (.cons (.var 1) .nil)) (.bi .len (.cons (.var 2) .nil))) (.lit (.int 1))) .nil))))))
  (.cons (.for_ (.name 6) (.rng (.bin .sub (.bi .len (.cons (.var 1) .nil)) (.bi .len (.cons (.var 2) .nil))) (.neg (.lit (.int 1))) (-1)) (.cons (.set 7 (.call 106 (.cons (.var 0) (.cons (.idx (.var 3) (.bin .sub (.bin .add (.var 6) (.bi .len (.cons (.var 2) .nil))) (.lit (.int 1)))) (.cons (.var 4) .nil)))))
  (.cons (.sub (.var 5) (.var 6) (.var 7))
  (.cons (.for_ (.name 8) (.rng (.lit (.int 0)) (.bi .len (.cons (.var 2) .nil)) 1) (.cons (.sub (.var 3) (.bin .add (.var 6) (.var 8)) (.call 105 (.cons (.var 0) (.cons (.idx (.var 3) (.bin .add (.var 6) (.var 8))) (.cons (.call 107 (.cons (.var 0) (.cons (.call 106 (.cons (.var 0) (.cons (.var 7) (.cons (.idx (.var 2) (.var 8)) .nil)))) .nil))) .nil)))))
  .nil))
  .nil))))
  (.cons (.ret (.tup (.cons (.call 111 (.cons (.var 0) (.cons (.var 5) .nil))) (.cons (.call 111 (.cons (.var 0) (.cons (.var 3) .nil))) .nil))))
  .nil))))
def F117 : Fn := ⟨3, 9, B117, false⟩
/-- _law_pmonic -/
def B118 : Ss := (.cons (.ret (.ite (.bin .gt (.bi .len (.cons (.var 1) .nil)) (.lit (.int 0))) (.call 116 (.cons (.var 0) (.cons (.var 1) (.cons (.call 110 (.cons (.var 0) (.cons (.idx (.var 1) (.neg (.lit (.int 1)))) .nil))) .nil)))) (.tup .nil)))
  .nil)
def F118 : Fn := ⟨2, 2, B118, false⟩
/-- _law_pgcd -/
def B119 : Ss := (.cons (.whl (.bin .gt (.bi .len (.cons (.var 2) .nil)) (.lit (.int 0))) (.cons (.par [1, 2] (.cons (.var 2) (.cons (.idx (.call 117 (.cons (.var 0) (.cons (.var 1) (.cons (.var 2) .nil)))) (.lit (.int 1))) .nil)))
  .nil))
  (.cons (.ret (.call 118 (.cons (.var 0) (.cons (.var 1) .nil))))
  .nil))
def F119 : Fn := ⟨3, 3, B119, false⟩
/-- _law_pslope -/
def B120 : Ss := (.cons (.ret (.call 111 (.cons (.var 0) (.cons (.frz (.comp [2] (.name 2) (.rng (.lit (.int 1)) (.bi .len (.cons (.var 1) .nil)) 1) (.lit (.bl true)) (.call 106 (.cons (.var 0) (.cons (.idx (.var 1) (.var 2)) (.cons (.call 109 (.cons (.var 0) (.cons (.var 2) .nil))) .nil)))))) .nil))))
  .nil)
def F120 : Fn := ⟨2, 3, B120, false⟩
/-- _law_squarefree -/
def B121 : Ss := (.cons (.ret (.bin .eq (.bi .len (.cons (.call 119 (.cons (.var 0) (.cons (.var 1) (.cons (.call 120 (.cons (.var 0) (.cons (.var 1) .nil))) .nil)))) .nil)) (.lit (.int 1))))
  .nil)
def F121 : Fn := ⟨2, 2, B121, false⟩
/-- PrimeField.__init__ -/
def B176 : Ss := (.cons (.setf 28 (.var 1))
  .nil)
def F176 : Fn := ⟨2, 2, B176, false⟩
/-- PrimeField.zero -/
def B178 : Ss := (.cons (.ret (.lit (.int 0)))
  .nil)
def F178 : Fn := ⟨1, 1, B178, false⟩
/-- PrimeField.one -/
def B179 : Ss := (.cons (.ret (.lit (.int 1)))
  .nil)
def F179 : Fn := ⟨1, 1, B179, false⟩
/-- PrimeField.is_zero -/
def B180 : Ss := (.cons (.ret (.bin .eq (.var 1) (.lit (.int 0))))
  .nil)
def F180 : Fn := ⟨2, 2, B180, false⟩
/-- PrimeField.add -/
def B181 : Ss := (.cons (.ret (.bin .mod (.bin .add (.var 1) (.var 2)) (.fld (.var 0) 28)))
  .nil)
def F181 : Fn := ⟨3, 3, B181, false⟩
/-- PrimeField.subtract -/
def B182 : Ss := (.cons (.ret (.bin .mod (.bin .sub (.var 1) (.var 2)) (.fld (.var 0) 28)))
  .nil)
def F182 : Fn := ⟨3, 3, B182, false⟩
/-- PrimeField.negative -/
def B183 : Ss := (.cons (.ret (.bin .mod (.neg (.var 1)) (.fld (.var 0) 28)))
  .nil)
def F183 : Fn := ⟨2, 2, B183, false⟩
/-- PrimeField.multiply -/
def B184 : Ss := (.cons (.ret (.bin .mod (.bin .mul (.var 1) (.var 2)) (.fld (.var 0) 28)))
  .nil)
def F184 : Fn := ⟨3, 3, B184, false⟩
/-- PrimeField.inverse -/
def B185 : Ss := (.cons (.ife (.bin .eq (.var 1) (.lit (.int 0))) (.cons .bad
  .nil) .nil)
  (.cons (.ret (.meth (.var 0) 18 (.cons (.var 1) (.cons (.bin .sub (.fld (.var 0) 28) (.lit (.int 2))) .nil))))
  .nil))
def F185 : Fn := ⟨2, 2, B185, false⟩
/-- PrimeField.divide -/
def B186 : Ss := (.cons (.ret (.meth (.var 0) 4 (.cons (.var 1) (.cons (.meth (.var 0) 6 (.cons (.var 2) .nil)) .nil))))
  .nil)
def F186 : Fn := ⟨3, 3, B186, false⟩
/-- PrimeField.power -/
def B187 : Ss := (.cons (.ife (.bin .lt (.var 2) (.lit (.int 0))) (.cons (.ret (.meth (.var 0) 18 (.cons (.meth (.var 0) 6 (.cons (.var 1) .nil)) (.cons (.neg (.var 2)) .nil))))
  .nil) .nil)
  (.cons (.set 3 (.lit (.int 1)))
  (.cons (.whl (.bin .gt (.var 2) (.lit (.int 0))) (.cons (.ife (.bin .eq (.bin .mod (.var 2) (.lit (.int 2))) (.lit (.int 1))) (.cons (.set 3 (.bin .mod (.bin .mul (.var 3) (.var 1)) (.fld (.var 0) 28)))
  .nil) .nil)
  (.cons (.set 1 (.bin .mod (.bin .mul (.var 1) (.var 1)) (.fld (.var 0) 28)))
  (.cons (.set 2 (.bin .fdv (.var 2) (.lit (.int 2))))
  .nil))))
  (.cons (.ret (.var 3))
  .nil))))
def F187 : Fn := ⟨3, 4, B187, false⟩
/-- PrimeField.rational -/
def B188 : Ss := (.cons (.ret (.meth (.var 0) 19 (.cons (.bin .mod (.idx (.var 1) (.lit (.int 0))) (.fld (.var 0) 28)) (.cons (.bin .mod (.idx (.var 1) (.lit (.int 1))) (.fld (.var 0) 28)) .nil))))
  .nil)
def F188 : Fn := ⟨2, 2, B188, false⟩
/-- root_part -/
def B202 : Ss := (.cons (.set 2 (.bin .fdv (.call 2 (.cons (.var 1) .nil)) (.lit (.int 2))))
  (.cons (.set 3 (.own (.cat (.frz (.rep (.frz (.disp (.cons (.meth (.var 0) 5 .nil) .nil))) (.var 2))) (.frz (.disp (.cons (.meth (.var 0) 3 .nil) .nil))))))
  (.cons (.set 4 (.meth (.var 0) 6 (.cons (.meth (.var 0) 8 (.cons (.tup (.cons (.lit (.int 2)) (.cons (.lit (.int 1)) .nil))) .nil)) .nil)))
  (.cons (.for_ (.name 5) (.rng (.bin .sub (.var 2) (.lit (.int 1))) (.neg (.lit (.int 1))) (-1)) (.cons (.set 6 (.call 7 (.cons (.var 0) (.cons (.var 1) (.cons (.call 9 (.cons (.var 0) (.cons (.bi .tuple (.cons (.var 3) .nil)) (.cons (.bi .tuple (.cons (.var 3) .nil)) .nil)))) .nil)))))
  (.cons (.ife (.bin .lt (.bin .add (.var 2) (.var 5)) (.bi .len (.cons (.var 6) .nil))) (.cons (.sub (.var 3) (.var 5) (.meth (.var 0) 4 (.cons (.idx (.var 6) (.bin .add (.var 2) (.var 5))) (.cons (.var 4) .nil))))
  .nil) .nil)
  .nil)))
  (.cons (.ret (.bi .tuple (.cons (.var 3) .nil)))
  .nil)))))
def F202 : Fn := ⟨2, 7, B202, false⟩
/-- first_state -/
def B203 : Ss := (.cons (.ret (.tup (.cons (.tup .nil) (.cons (.tup (.cons (.meth (.var 0) 3 .nil) .nil)) .nil))))
  .nil)
def F203 : Fn := ⟨1, 1, B203, false⟩
/-- next_state -/
def B204 : Ss := (.cons (.unp (.tup [(.name 4), (.name 5)]) (.var 3))
  (.cons (.set 6 (.idx (.call 11 (.cons (.var 0) (.cons (.call 5 (.cons (.var 0) (.cons (.var 4) (.cons (.var 2) .nil)))) (.cons (.var 5) .nil)))) (.lit (.int 0))))
  (.cons (.set 7 (.call 7 (.cons (.var 0) (.cons (.call 9 (.cons (.var 0) (.cons (.var 6) (.cons (.var 5) .nil)))) (.cons (.var 4) .nil)))))
  (.cons (.ret (.tup (.cons (.var 6) (.cons (.tup (.cons (.var 7) (.cons (.call 12 (.cons (.var 0) (.cons (.call 7 (.cons (.var 0) (.cons (.var 1) (.cons (.call 9 (.cons (.var 0) (.cons (.var 7) (.cons (.var 7) .nil)))) .nil)))) (.cons (.var 5) .nil)))) .nil))) .nil))))
  .nil))))
def F204 : Fn := ⟨4, 8, B204, false⟩
/-- next_pairs -/
def B205 : Ss := (.cons (.set 4 (.call 5 (.cons (.var 0) (.cons (.call 9 (.cons (.var 0) (.cons (.var 1) (.cons (.idx (.var 2) (.lit (.int 0))) .nil)))) (.cons (.idx (.var 3) (.lit (.int 0))) .nil)))))
  (.cons (.set 5 (.call 5 (.cons (.var 0) (.cons (.call 9 (.cons (.var 0) (.cons (.var 1) (.cons (.idx (.var 2) (.lit (.int 1))) .nil)))) (.cons (.idx (.var 3) (.lit (.int 1))) .nil)))))
  (.cons (.ret (.tup (.cons (.tup (.cons (.var 4) (.cons (.var 5) .nil))) (.cons (.var 2) .nil))))
  .nil)))
def F205 : Fn := ⟨4, 6, B205, false⟩
/-- chain_states -/
def B206 : Ss := (.cons (.par [3, 4, 5] (.cons (.call 202 (.cons (.var 0) (.cons (.var 1) .nil))) (.cons (.call 203 (.cons (.var 0) .nil)) (.cons (.own (.disp .nil)) .nil))))
  (.cons (.for_ (.name 6) (.rng (.lit (.int 0)) (.var 2) 1) (.cons (.unp (.tup [(.name 7), (.name 8)]) (.call 204 (.cons (.var 0) (.cons (.var 1) (.cons (.var 3) (.cons (.var 4) .nil))))))
  (.cons (.app (.var 5) (.tup (.cons (.idx (.var 4) (.lit (.int 0))) (.cons (.idx (.var 4) (.lit (.int 1))) (.cons (.var 7) .nil)))))
  (.cons (.set 4 (.var 8))
  .nil))))
  (.cons (.ret (.bi .tuple (.cons (.var 5) .nil)))
  .nil)))
def F206 : Fn := ⟨3, 9, B206, false⟩
/-- chain_pairs -/
def B207 : Ss := (.cons (.par [3, 4, 5] (.cons (.tup (.cons (.tup (.cons (.meth (.var 0) 3 .nil) .nil)) (.cons (.tup .nil) .nil))) (.cons (.tup (.cons (.tup .nil) (.cons (.tup (.cons (.meth (.var 0) 3 .nil) .nil)) .nil))) (.cons (.own (.disp .nil)) .nil))))
  (.cons (.for_ (.tup [(.name 6), (.name 6), (.name 7)]) (.seq (.call 206 (.cons (.var 0) (.cons (.var 1) (.cons (.var 2) .nil))))) (.cons (.unp (.tup [(.name 3), (.name 4)]) (.call 205 (.cons (.var 0) (.cons (.var 7) (.cons (.var 3) (.cons (.var 4) .nil))))))
  (.cons (.app (.var 5) (.var 3))
  .nil)))
  (.cons (.ret (.bi .tuple (.cons (.var 5) .nil)))
  .nil)))
def F207 : Fn := ⟨3, 8, B207, false⟩
/-- root_norm -/
def B208 : Ss := (.cons (.ret (.call 7 (.cons (.var 0) (.cons (.call 9 (.cons (.var 0) (.cons (.var 2) (.cons (.var 2) .nil)))) (.cons (.call 9 (.cons (.var 0) (.cons (.var 1) (.cons (.call 9 (.cons (.var 0) (.cons (.var 3) (.cons (.var 3) .nil)))) .nil)))) .nil)))))
  .nil)
def F208 : Fn := ⟨4, 4, B208, false⟩
/-- _law_chain -/
def B209 : Ss := (.cons (.par [3, 4, 5] (.cons (.call 211 (.cons (.var 0) (.cons (.var 1) .nil))) (.cons (.tup .nil) (.cons (.tup (.cons (.call 210 (.cons (.var 0) .nil)) .nil)) .nil))))
  (.cons (.par [6, 7, 8] (.cons (.tup (.cons (.tup (.cons (.call 210 (.cons (.var 0) .nil)) .nil)) (.cons (.tup .nil) .nil))) (.cons (.tup (.cons (.tup .nil) (.cons (.tup (.cons (.call 210 (.cons (.var 0) .nil)) .nil)) .nil))) (.cons (.own (.disp .nil)) .nil))))
  (.cons (.for_ (.name 9) (.rng (.lit (.int 0)) (.var 2) 1) (.cons (.set 10 (.idx (.call 117 (.cons (.var 0) (.cons (.call 112 (.cons (.var 0) (.cons (.var 4) (.cons (.var 3) .nil)))) (.cons (.var 5) .nil)))) (.lit (.int 0))))
  (.cons (.set 11 (.tup (.cons (.call 112 (.cons (.var 0) (.cons (.call 115 (.cons (.var 0) (.cons (.var 10) (.cons (.idx (.var 6) (.lit (.int 0))) .nil)))) (.cons (.idx (.var 7) (.lit (.int 0))) .nil)))) (.cons (.call 112 (.cons (.var 0) (.cons (.call 115 (.cons (.var 0) (.cons (.var 10) (.cons (.idx (.var 6) (.lit (.int 1))) .nil)))) (.cons (.idx (.var 7) (.lit (.int 1))) .nil)))) .nil))))
  (.cons (.par [6, 7] (.cons (.var 11) (.cons (.var 6) .nil)))
  (.cons (.app (.var 8) (.tup (.cons (.var 4) (.cons (.var 5) (.cons (.var 10) (.cons (.var 6) .nil))))))
  (.cons (.set 4 (.call 114 (.cons (.var 0) (.cons (.call 115 (.cons (.var 0) (.cons (.var 10) (.cons (.var 5) .nil)))) (.cons (.var 4) .nil)))))
  (.cons (.set 5 (.idx (.call 117 (.cons (.var 0) (.cons (.call 114 (.cons (.var 0) (.cons (.var 1) (.cons (.call 115 (.cons (.var 0) (.cons (.var 4) (.cons (.var 4) .nil)))) .nil)))) (.cons (.var 5) .nil)))) (.lit (.int 0))))
  .nil)))))))
  (.cons (.ret (.tup (.cons (.var 8) (.cons (.var 4) (.cons (.var 5) .nil)))))
  .nil))))
def F209 : Fn := ⟨3, 12, B209, false⟩
/-- _law_fone -/
def B210 : Ss := (.cons (.ret (.ite (.bin .eq (.var 0) (.lit (.int 0))) (.tup (.cons (.lit (.int 1)) (.cons (.lit (.int 1)) .nil))) (.lit (.int 1))))
  .nil)
def F210 : Fn := ⟨1, 1, B210, false⟩
/-- _law_root_part -/
def B211 : Ss := (.cons (.set 2 (.bin .fdv (.bin .sub (.bi .len (.cons (.var 1) .nil)) (.lit (.int 1))) (.lit (.int 2))))
  (.cons (.set 3 (.own (.cat (.frz (.rep (.frz (.disp (.cons (.call 108 (.cons (.var 0) .nil)) .nil))) (.var 2))) (.frz (.disp (.cons (.call 210 (.cons (.var 0) .nil)) .nil))))))
  (.cons (.set 4 (.call 110 (.cons (.var 0) (.cons (.call 109 (.cons (.var 0) (.cons (.lit (.int 2)) .nil))) .nil))))
  (.cons (.for_ (.name 5) (.rng (.bin .sub (.var 2) (.lit (.int 1))) (.neg (.lit (.int 1))) (-1)) (.cons (.set 6 (.call 114 (.cons (.var 0) (.cons (.var 1) (.cons (.call 115 (.cons (.var 0) (.cons (.bi .tuple (.cons (.var 3) .nil)) (.cons (.bi .tuple (.cons (.var 3) .nil)) .nil)))) .nil)))))
  (.cons (.set 7 (.ite (.bin .lt (.bin .add (.var 2) (.var 5)) (.bi .len (.cons (.var 6) .nil))) (.idx (.var 6) (.bin .add (.var 2) (.var 5))) (.call 108 (.cons (.var 0) .nil))))
  (.cons (.sub (.var 3) (.var 5) (.call 106 (.cons (.var 0) (.cons (.var 7) (.cons (.var 4) .nil)))))
  .nil))))
  (.cons (.ret (.bi .tuple (.cons (.var 3) .nil)))
  .nil)))))
def F211 : Fn := ⟨2, 8, B211, false⟩
/-- unit_to -/
def B215 : Ss := (.cons (.par [3, 4] (.cons (.call 202 (.cons (.var 0) (.cons (.var 1) .nil))) (.cons (.call 203 (.cons (.var 0) .nil)) .nil)))
  (.cons (.par [5, 6] (.cons (.tup (.cons (.tup (.cons (.meth (.var 0) 3 .nil) .nil)) (.cons (.tup .nil) .nil))) (.cons (.tup (.cons (.tup .nil) (.cons (.tup (.cons (.meth (.var 0) 3 .nil) .nil)) .nil))) .nil)))
  (.cons (.whl (.or (.isN false (.var 2)) (.bin .lt (.call 2 (.cons (.idx (.var 5) (.lit (.int 0))) .nil)) (.var 2))) (.cons (.unp (.tup [(.name 7), (.name 4)]) (.call 204 (.cons (.var 0) (.cons (.var 1) (.cons (.var 3) (.cons (.var 4) .nil))))))
  (.cons (.unp (.tup [(.name 5), (.name 6)]) (.call 205 (.cons (.var 0) (.cons (.var 7) (.cons (.var 5) (.cons (.var 6) .nil))))))
  (.cons (.ife (.bin .eq (.call 2 (.cons (.idx (.var 4) (.lit (.int 1))) .nil)) (.lit (.int 0))) (.cons (.ret (.ite (.or (.isN false (.var 2)) (.bin .le (.call 2 (.cons (.idx (.var 5) (.lit (.int 0))) .nil)) (.var 2))) (.var 5) (.lit .non)))
  .nil) .nil)
  .nil))))
  (.cons (.ret (.lit .non))
  .nil))))
def F215 : Fn := ⟨3, 8, B215, false⟩
/-- is_unit -/
def B216 : Ss := (.cons (.ret (.and (.bin .gt (.bi .len (.cons (.var 3) .nil)) (.lit (.int 0))) (.bin .eq (.call 2 (.cons (.call 208 (.cons (.var 0) (.cons (.var 1) (.cons (.var 2) (.cons (.var 3) .nil))))) .nil)) (.lit (.int 0)))))
  .nil)
def F216 : Fn := ⟨4, 4, B216, false⟩
/-- unit_product -/
def B221 : Ss := (.cons (.set 4 (.call 5 (.cons (.var 0) (.cons (.call 9 (.cons (.var 0) (.cons (.idx (.var 2) (.lit (.int 0))) (.cons (.idx (.var 3) (.lit (.int 0))) .nil)))) (.cons (.call 9 (.cons (.var 0) (.cons (.var 1) (.cons (.call 9 (.cons (.var 0) (.cons (.idx (.var 2) (.lit (.int 1))) (.cons (.idx (.var 3) (.lit (.int 1))) .nil)))) .nil)))) .nil)))))
  (.cons (.ret (.tup (.cons (.var 4) (.cons (.call 5 (.cons (.var 0) (.cons (.call 9 (.cons (.var 0) (.cons (.idx (.var 2) (.lit (.int 0))) (.cons (.idx (.var 3) (.lit (.int 1))) .nil)))) (.cons (.call 9 (.cons (.var 0) (.cons (.idx (.var 2) (.lit (.int 1))) (.cons (.idx (.var 3) (.lit (.int 0))) .nil)))) .nil)))) .nil))))
  .nil))
def F221 : Fn := ⟨4, 5, B221, false⟩
/-- unit_power -/
def B222 : Ss := (.cons (.set 4 (.tup (.cons (.tup (.cons (.meth (.var 0) 3 .nil) .nil)) (.cons (.tup .nil) .nil))))
  (.cons (.for_ (.name 5) (.rng (.lit (.int 0)) (.var 3) 1) (.cons (.set 4 (.call 221 (.cons (.var 0) (.cons (.var 1) (.cons (.var 4) (.cons (.var 2) .nil))))))
  .nil))
  (.cons (.ret (.var 4))
  .nil)))
def F222 : Fn := ⟨4, 6, B222, false⟩
/-- _law_least_unit -/
def B224 : Ss := (.cons (.par [3, 4, 5] (.cons (.call 211 (.cons (.var 0) (.cons (.var 1) .nil))) (.cons (.tup .nil) (.cons (.tup (.cons (.call 210 (.cons (.var 0) .nil)) .nil)) .nil))))
  (.cons (.par [6, 7] (.cons (.tup (.cons (.tup (.cons (.call 210 (.cons (.var 0) .nil)) .nil)) (.cons (.tup .nil) .nil))) (.cons (.tup (.cons (.tup .nil) (.cons (.tup (.cons (.call 210 (.cons (.var 0) .nil)) .nil)) .nil))) .nil)))
  (.cons (.for_ (.name 8) (.rng (.lit (.int 0)) (.var 2) 1) (.cons (.set 9 (.idx (.call 117 (.cons (.var 0) (.cons (.call 112 (.cons (.var 0) (.cons (.var 4) (.cons (.var 3) .nil)))) (.cons (.var 5) .nil)))) (.lit (.int 0))))
  (.cons (.set 10 (.tup (.cons (.call 112 (.cons (.var 0) (.cons (.call 115 (.cons (.var 0) (.cons (.var 9) (.cons (.idx (.var 6) (.lit (.int 0))) .nil)))) (.cons (.idx (.var 7) (.lit (.int 0))) .nil)))) (.cons (.call 112 (.cons (.var 0) (.cons (.call 115 (.cons (.var 0) (.cons (.var 9) (.cons (.idx (.var 6) (.lit (.int 1))) .nil)))) (.cons (.idx (.var 7) (.lit (.int 1))) .nil)))) .nil))))
  (.cons (.par [6, 7] (.cons (.var 10) (.cons (.var 6) .nil)))
  (.cons (.set 4 (.call 114 (.cons (.var 0) (.cons (.call 115 (.cons (.var 0) (.cons (.var 9) (.cons (.var 5) .nil)))) (.cons (.var 4) .nil)))))
  (.cons (.set 5 (.idx (.call 117 (.cons (.var 0) (.cons (.call 114 (.cons (.var 0) (.cons (.var 1) (.cons (.call 115 (.cons (.var 0) (.cons (.var 4) (.cons (.var 4) .nil)))) .nil)))) (.cons (.var 5) .nil)))) (.lit (.int 0))))
  (.cons (.ife (.bin .eq (.bi .len (.cons (.var 5) .nil)) (.lit (.int 1))) (.cons (.ret (.var 6))
  .nil) .nil)
  .nil)))))))
  (.cons (.ret (.lit .non))
  .nil))))
def F224 : Fn := ⟨3, 11, B224, false⟩
/-- _law_drawn -/
def B212_1 : Ss := (.cons (.whl (.lit (.bl true)) (.cons (.set 3 (.bin .add (.bi .tuple (.cons (.frz (.comp [4] (.name 4) (.rng (.lit (.int 0)) (.var 2) 1) (.lit (.bl true)) (.call 94 (.cons (.var 0) (.cons (.var 1) .nil))))) .nil)) (.tup (.cons (.lit (.int 1)) .nil))))
  (.cons (.ife (.call 121 (.cons (.var 1) (.cons (.var 3) .nil))) (.cons (.ret (.var 3))
  .nil) .nil)
  .nil)))
  .nil)
def F212_1 : Fn := ⟨3, 5, B212_1, false⟩
/-- PrimeField.level -/
def B177_1 : Ss := (.cons (.expr (.call 0 (.cons (.lit (.int 0)) .nil)))
  .nil)
def F177_1 : Fn := ⟨1, 1, B177_1, false⟩
/-- PrimeField.roots_of -/
def B190_3 : Ss := (.cons (.expr (.call 0 (.cons (.lit (.int 2)) .nil)))
  .nil)
def F190_3 : Fn := ⟨2, 2, B190_3, false⟩
/-- PrimeField.is_element -/
def B189_2 : Ss := (.cons (.expr (.call 0 (.cons (.lit (.int 1)) .nil)))
  .nil)
def F189_2 : Fn := ⟨2, 2, B189_2, false⟩
/-- _law_unit_holds -/
def B228_3 : Ss := (.cons (.par [3, 4] (.cons (.mk 5 (.cons (.var 1) .nil)) (.cons (.call 224 (.cons (.var 1) (.cons (.var 2) (.cons (.lit (.int 200)) .nil)))) .nil)))
  (.cons (.ife (.isN false (.var 4)) (.cons (.ret (.lit (.bl true)))
  .nil) .nil)
  (.cons (.ife (.not (.call 98 (.cons (.call 96 (.cons (.call 215 (.cons (.var 3) (.cons (.var 2) (.cons (.lit .non) .nil)))) .nil)) (.cons (.var 4) .nil)))) (.cons (.ret (.lit (.bl false)))
  .nil) .nil)
  (.cons (.par [5, 6] (.cons (.call 208 (.cons (.var 3) (.cons (.var 2) (.cons (.idx (.var 4) (.lit (.int 0))) (.cons (.idx (.var 4) (.lit (.int 1))) .nil))))) (.cons (.call 94 (.cons (.var 0) (.cons (.lit (.int 4)) .nil))) .nil)))
  (.cons (.unp (.tup [(.name 7), (.name 8)]) (.call 222 (.cons (.var 3) (.cons (.var 2) (.cons (.var 4) (.cons (.var 6) .nil))))))
  (.cons (.set 9 (.lit (.int 1)))
  (.cons (.for_ (.name 10) (.rng (.lit (.int 0)) (.var 6) 1) (.cons (.set 9 (.bin .mod (.bi .int (.cons (.bin .mul (.var 9) (.idx (.var 5) (.lit (.int 0)))) .nil)) (.var 1)))
  .nil))
  (.cons (.ife (.or (.bin .ne (.bi .len (.cons (.var 5) .nil)) (.lit (.int 1))) (.or (.bin .ne (.call 208 (.cons (.var 3) (.cons (.var 2) (.cons (.var 7) (.cons (.var 8) .nil))))) (.tup (.cons (.var 9) .nil))) (.bin .ne (.bin .sub (.bi .len (.cons (.var 7) .nil)) (.lit (.int 1))) (.bin .mul (.var 6) (.bin .sub (.bi .len (.cons (.idx (.var 4) (.lit (.int 0))) .nil)) (.lit (.int 1))))))) (.cons (.ret (.lit (.bl false)))
  .nil) .nil)
  (.cons (.set 11 (.tup (.cons (.idx (.var 4) (.lit (.int 0))) (.cons (.call 113 (.cons (.var 1) (.cons (.idx (.var 4) (.lit (.int 1))) .nil))) .nil))))
  (.cons (.ife (.or (.bin .ne (.call 221 (.cons (.var 3) (.cons (.var 2) (.cons (.var 4) (.cons (.var 11) .nil))))) (.tup (.cons (.var 5) (.cons (.tup .nil) .nil)))) (.not (.call 99 (.cons (.call 216 (.cons (.var 3) (.cons (.var 2) (.cons (.idx (.var 11) (.lit (.int 0))) (.cons (.idx (.var 11) (.lit (.int 1))) .nil))))) (.cons (.lit (.bl true)) .nil))))) (.cons (.ret (.lit (.bl false)))
  .nil) .nil)
  (.cons (.ret (.call 99 (.cons (.call 216 (.cons (.var 3) (.cons (.var 2) (.cons (.var 7) (.cons (.var 8) .nil))))) (.cons (.bin .gt (.var 6) (.lit (.int 0))) .nil))))
  .nil)))))))))))
def F228_3 : Fn := ⟨3, 12, B228_3, false⟩
/-- _law_states_hold -/
def B377 : Ss := (.cons (.par [3, 4] (.cons (.mk 5 (.cons (.var 0) .nil)) (.cons (.bin .fdv (.bin .sub (.bi .len (.cons (.var 1) .nil)) (.lit (.int 1))) (.lit (.int 2))) .nil)))
  (.cons (.par [5, 6] (.cons (.call 96 (.cons (.call 206 (.cons (.var 3) (.cons (.var 1) (.cons (.var 2) .nil)))) .nil)) (.cons (.call 96 (.cons (.call 207 (.cons (.var 3) (.cons (.var 1) (.cons (.var 2) .nil)))) .nil)) .nil)))
  (.cons (.ife (.or (.bin .ne (.bi .len (.cons (.var 5) .nil)) (.var 2)) (.bin .ne (.bi .len (.cons (.var 6) .nil)) (.var 2))) (.cons (.ret (.lit (.bl false)))
  .nil) .nil)
  (.cons (.set 7 (.call 96 (.cons (.call 202 (.cons (.var 3) (.cons (.var 1) .nil))) .nil)))
  (.cons (.for_ (.name 8) (.rng (.lit (.int 0)) (.var 2) 1) (.cons (.unp (.tup [(.name 9), (.name 10), (.name 11)]) (.idx (.var 5) (.var 8)))
  (.cons (.ife (.or (.bin .gt (.bi .len (.cons (.idx (.call 117 (.cons (.var 0) (.cons (.call 114 (.cons (.var 0) (.cons (.var 1) (.cons (.call 115 (.cons (.var 0) (.cons (.var 9) (.cons (.var 9) .nil)))) .nil)))) (.cons (.var 10) .nil)))) (.lit (.int 1))) .nil)) (.lit (.int 0))) (.and (.bin .gt (.var 8) (.lit (.int 0))) (.or (.bin .ne (.bi .len (.cons (.var 9) .nil)) (.bin .add (.var 4) (.lit (.int 1)))) (.or (.bin .ne (.idx (.var 9) (.neg (.lit (.int 1)))) (.lit (.int 1))) (.bin .gt (.bi .len (.cons (.var 10) .nil)) (.var 4)))))) (.cons (.ret (.lit (.bl false)))
  .nil) .nil)
  (.cons (.set 12 (.call 114 (.cons (.var 0) (.cons (.call 112 (.cons (.var 0) (.cons (.var 9) (.cons (.var 7) .nil)))) (.cons (.call 115 (.cons (.var 0) (.cons (.var 11) (.cons (.var 10) .nil)))) .nil)))))
  (.cons (.ife (.bin .ge (.bi .len (.cons (.var 12) .nil)) (.bi .len (.cons (.var 10) .nil))) (.cons (.ret (.lit (.bl false)))
  .nil) .nil)
  (.cons (.ife (.and (.bin .gt (.var 8) (.lit (.int 0))) (.bin .eq (.bi .len (.cons (.var 10) .nil)) (.lit (.int 1)))) (.cons (.set 13 (.idx (.idx (.idx (.call 209 (.cons (.var 0) (.cons (.var 1) (.cons (.var 8) .nil)))) (.lit (.int 0))) (.neg (.lit (.int 1)))) (.lit (.int 3))))
  (.cons (.ife (.or (.bin .ne (.var 13) (.idx (.var 6) (.bin .sub (.var 8) (.lit (.int 1))))) (.not (.call 216 (.cons (.var 3) (.cons (.var 1) (.cons (.idx (.var 13) (.lit (.int 0))) (.cons (.idx (.var 13) (.lit (.int 1))) .nil))))))) (.cons (.ret (.lit (.bl false)))
  .nil) .nil)
  .nil)) .nil)
  .nil))))))
  (.cons (.ret (.lit (.bl true)))
  .nil))))))
def F377 : Fn := ⟨3, 14, B377, false⟩
/-- law -/
def B144_17 : Ss := (.cons (.set 1 (.call 93 (.cons (.var 0) .nil)))
  (.cons (.for_ (.name 2) (.rng (.lit (.int 0)) (.lit (.int 3)) 1) (.cons (.set 3 (.idx (.frz (.disp (.cons (.lit (.int 3)) (.cons (.lit (.int 5)) (.cons (.lit (.int 7)) (.cons (.lit (.int 11)) .nil)))))) (.call 94 (.cons (.var 1) (.cons (.lit (.int 4)) .nil)))))
  (.cons (.set 4 (.call 212 (.cons (.var 1) (.cons (.var 3) (.cons (.idx (.frz (.disp (.cons (.lit (.int 2)) (.cons (.lit (.int 4)) (.cons (.lit (.int 4)) .nil))))) (.var 2)) .nil)))))
  (.cons (.ife (.or (.not (.call 228 (.cons (.var 1) (.cons (.var 3) (.cons (.var 4) .nil))))) (.not (.call 377 (.cons (.var 3) (.cons (.var 4) (.cons (.bin .add (.lit (.int 1)) (.call 94 (.cons (.var 1) (.cons (.lit (.int 8)) .nil)))) .nil)))))) (.cons (.ret (.lit (.bl false)))
  .nil) .nil)
  .nil))))
  (.cons (.ret (.call 377 (.cons (.lit (.int 3)) (.cons (.call 212 (.cons (.var 1) (.cons (.lit (.int 3)) (.cons (.lit (.int 6)) .nil)))) (.cons (.lit (.int 6)) .nil)))))
  .nil)))
def F144_17 : Fn := ⟨1, 5, B144_17, false⟩

end RG
set_option Elab.async false
set_option linter.all false
set_option maxRecDepth 100000
/-! Running defs of the small language: small lemmas. -/
namespace RG
open PySem
theorem bnd_ret {α β : Type} (a : α) (S : Store) (k : α → Store → R β) : bnd (ret a S) k = k a S := rfl
theorem bnd_some {α β : Type} (a : α) (S : Store) (k : α → Store → R β) : bnd (some (.ok a S)) k = k a S := rfl
theorem stp_ret (ρ : Env) (d : D) (S : Store) (k : D → Store → Option Out) : stp ρ (ret d S) k = k d S := rfl
theorem stp_some (ρ : Env) (d : D) (S : Store) (k : D → Store → Option Out) : stp ρ (some (.ok d S)) k = k d S := rfl
theorem obind_some {α β : Type} (a : α) (k : α → Option β) : (some a).bind k = k a := rfl
theorem call_eq {P : Prog} {f d : Nat} {args : List D} {S : Store} {n k : Nat} {b : Ss} {ro : Bool} (h : P.fn f = some ⟨n, k, b, ro⟩) (hn : args.length = n) (hk : n ≤ k) :
    callF P (d + 1) f args S = fin ro S.length (execs P (callF P d) b (args.map some ++ List.replicate (k - n) none) S) := by
  rw [callF, h]
  exact if_pos ⟨hn, hk⟩
/-- one statement after another -/
def sq (r : Option Out) (k : Env → Store → Option Out) : Option Out :=
  match r with
  | some (.nx ρ S) => k ρ S
  | r => r
theorem sq_nx (ρ : Env) (S : Store) (k : Env → Store → Option Out) : sq (some (.nx ρ S)) k = k ρ S := rfl
section
variable {P : Prog} {cl : Nat → List D → Store → R D} {ρ : Env} {S : Store}
theorem ev_var {i : Nat} {d : D} (h : ρ[i]? = some (some d)) : ev P cl (.var i) ρ S = ret d S := by
  rw [ev, h]
theorem ev_lit (d : D) : ev P cl (.lit d) ρ S = ret d S := by rw [ev]
theorem ev_meth {o : E} {m f c : Nat} {ks : List Nat} {vs : List D} {es : Es} (ho : ev P cl o ρ S = ret (.obj c ks vs) S) (hm : P.meth c m = some f) (hk : ks.contains m = false) :
    ev P cl (.meth o m es) ρ S = bnd (evs P cl es ρ S) fun xs S => cl f (.obj c ks vs :: xs) S := by
  rw [ev, ho]
  show (match P.meth c m with | some f => if ks.contains m then none else _ | none => none) = _
  rw [hm]
  simp only [hk]
  rfl
theorem execs_cons (s : RG.S) (r : Ss) {St : Store} : execs P cl (.cons s r) ρ St = sq (exec P cl s ρ St) fun ρ S => execs P cl r ρ S := by
  rw [execs]
  cases exec P cl s ρ St with
  | none => rfl
  | some r => cases r <;> rfl
theorem whl_nx {c : E} {b : Ss} {S1 S' : Store} {ρ' : Env} (hc : ev P cl c ρ S = ret (.bl true) S1) (hb : execs P cl b ρ S1 = some (.nx ρ' S')) : exec P cl (.whl c b) ρ S = exec P cl (.whl c b) ρ' S' := by
  rw [exec, exec]
  exact loop_next (by simp only [hc, hb, ret])
theorem whl_ct {c : E} {b : Ss} {S1 S' : Store} {ρ' : Env} (hc : ev P cl c ρ S = ret (.bl true) S1) (hb : execs P cl b ρ S1 = some (.ct ρ' S')) : exec P cl (.whl c b) ρ S = exec P cl (.whl c b) ρ' S' := by
  rw [exec, exec]
  exact loop_next (by simp only [hc, hb, ret])
theorem whl_rt {c : E} {b : Ss} {S1 S' : Store} {d : D} (hc : ev P cl c ρ S = ret (.bl true) S1) (hb : execs P cl b ρ S1 = some (.rt d S')) : exec P cl (.whl c b) ρ S = some (.rt d S') := by
  rw [exec]
  exact loop_stop (by simp only [hc, hb, ret])
theorem whl_no {c : E} {b : Ss} {S1 : Store} (hc : ev P cl c ρ S = ret (.bl false) S1) : exec P cl (.whl c b) ρ S = some (.nx ρ S1) := by
  rw [exec]
  exact loop_stop (by simp only [hc, ret])
theorem for_run {t : Tg} {it : It} {b : Ss} {xs : List D} {g : Guard} {S1 : Store} (h : evIt P cl it ρ S = ret (xs, g) S1) : exec P cl (.for_ t it b) ρ S = forGo t g (fun ρ S => execs P cl b ρ S) xs ρ S1 := by
  rw [exec, h]
  rfl
end
/-- a for with an invariant by the number of turns -/
theorem forGo_inv {t : Tg} {g : Guard} {body : Env → Store → Option Out} {xs : List D} (I : Nat → Env → Store → Prop) {ρ : Env} {S : Store} (h0 : I 0 ρ S)
    (step : ∀ i x ρ S, xs[i]? = some x → I i ρ S → ∃ ρ1 ρ2 S2, bind S t x ρ = some ρ1 ∧ (body ρ1 S = some (.nx ρ2 S2) ∨ body ρ1 S = some (.ct ρ2 S2)) ∧ g.ok S2 = true ∧ I (i + 1) ρ2 S2) :
    ∃ ρ' S', forGo t g body xs ρ S = some (.nx ρ' S') ∧ I xs.length ρ' S' := by
  have key : ∀ (ys : List D) (i : Nat) (ρ : Env) (S : Store), i ≤ xs.length → xs.drop i = ys → I i ρ S → ∃ ρ' S', forGo t g body ys ρ S = some (.nx ρ' S') ∧ I xs.length ρ' S' := by
    intro ys
    induction ys with
    | nil =>
      intro i ρ S hi hd hI
      have hl : xs.length ≤ i := List.drop_eq_nil_iff.mp hd
      have e : i = xs.length := Nat.le_antisymm hi hl
      subst e
      exact ⟨ρ, S, by rw [forGo], hI⟩
    | cons y ys ih =>
      intro i ρ S _ hd hI
      have hi : i < xs.length := by
        apply Nat.lt_of_not_le
        intro z
        rw [List.drop_eq_nil_of_le z] at hd
        cases hd
      have hx : xs[i]? = some y := by
        have := List.drop_eq_getElem_cons hi
        rw [hd] at this
        rw [List.getElem?_eq_getElem hi, (List.cons.inj this).1]
      have hdr : xs.drop (i + 1) = ys := by
        have := List.drop_eq_getElem_cons hi
        rw [hd] at this
        exact ((List.cons.inj this).2).symm
      obtain ⟨ρ1, ρ2, S2, hb, hr, hg, hI2⟩ := step i y ρ S hx hI
      obtain ⟨ρ', S', e, hI'⟩ := ih (i + 1) ρ2 S2 hi hdr hI2
      refine ⟨ρ', S', ?_, hI'⟩
      rw [forGo, hb]
      simp only
      rcases hr with hr | hr
      · rw [hr]
        simp only [hg, if_true]
        exact e
      · rw [hr]
        simp only [hg, if_true]
        exact e
  exact key xs 0 ρ S (Nat.zero_le _) rfl h0
/-- a comprehension that leaves the cells as they are -/
theorem comp_map {P : Prog} {cl : Nat → List D → Store → R D} {ρ : Env} {S : Store} {own : List Nat} {tg : Tg} {it : It} {elt : E} {xs ys : List D} {g : Guard} (hit : evIt P cl it ρ S = ret (xs, g) S) (hg : g.ok S = true) (hl : ys.length = xs.length) (hz : xs.length ≤ 100000)
    (h : ∀ (i : Nat) (x : D), xs[i]? = some x → ∃ ρ2 y, bind S tg x (wipe ρ own) = some ρ2 ∧ ev P cl elt ρ2 S = ret y S ∧ ys[i]? = some y) : evL P cl (.comp own tg it (.lit (.bl true)) elt) ρ S = ret ys S := by
  rw [evL, hit, bnd_ret]
  have key : ∀ (zs : List D) (i : Nat), i ≤ xs.length → xs.drop i = zs → foldR (fun (acc : List D) (x : D) (S : Store) => match bind S tg x (wipe ρ own) with
      | none => none
      | some ρ2 => gd g (bnd (ev P cl (.lit (.bl true)) ρ2 S) fun k S => match k with
        | .bl true => bnd (ev P cl elt ρ2 S) fun y S => if acc.length < 100000 then ret (acc ++ [y]) S else none
        | .bl false => ret acc S
        | _ => none)) zs (ys.take i) S = ret ys S := by
    intro zs
    induction zs with
    | nil =>
      intro i hi hd
      have hle : xs.length ≤ i := List.drop_eq_nil_iff.mp hd
      rw [foldR, List.take_of_length_le (by omega)]
    | cons z zs ih =>
      intro i _ hd
      have hi : i < xs.length := by
        apply Nat.lt_of_not_le
        intro q
        rw [List.drop_eq_nil_of_le q] at hd
        cases hd
      have hdr := List.drop_eq_getElem_cons hi
      rw [hd] at hdr
      have hx : xs[i]? = some z := by rw [List.getElem?_eq_getElem hi, (List.cons.inj hdr).1]
      obtain ⟨ρ2, y, e1, e2, e3⟩ := h i z hx
      have ht : ys.take i ++ [y] = ys.take (i + 1) := by rw [List.take_add_one, e3]; rfl
      rw [foldR]
      simp only [e1, ev, bnd_ret, e2]
      rw [if_pos (by rw [List.length_take]; omega)]
      unfold gd
      rw [bnd_ret, hg, if_pos rfl, bnd_ret, ht]
      have := ih (i + 1) hi (List.cons.inj hdr).2.symm
      simp only [ev] at this
      exact this
  have := key xs 0 (Nat.zero_le _) rfl
  rw [List.take_zero] at this
  exact congrArg nox this
/-- handed back as it is -/
theorem fin_rt {ro : Bool} {n : Nat} {v : D} {S : Store} (h : v.lt n = true) : fin ro n (some (.rt v S)) = ret v (S.take n) := by
  show retv ro n v S = _
  unfold retv
  rw [if_pos h]
end RG
set_option Elab.async false
set_option linter.all false
/-! Polynomials over a field: lists of coefficients, trimmed. -/
namespace RG
open Lean.Grind

section
variable {α : Type} [Field α] [DecidableEq α]
def co (l : List α) (i : Nat) : α := l.getD i 0
@[simp] theorem co_nil (i : Nat) : co ([] : List α) i = 0 := by simp [co]
@[simp] theorem co_zero (x : α) (l : List α) : co (x :: l) 0 = x := by simp [co]
@[simp] theorem co_succ (x : α) (l : List α) (i : Nat) : co (x :: l) (i + 1) = co l i := by simp [co]
theorem co_out {l : List α} {i : Nat} (h : l.length ≤ i) : co l i = 0 := by
  unfold co
  rw [List.getD_eq_getElem?_getD, List.getElem?_eq_none h]; rfl
def addL : List α → List α → List α
  | [], b => b
  | x :: a, [] => x :: a
  | x :: a, y :: b => (x + y) :: addL a b
theorem co_addL : ∀ (a b : List α) (i : Nat), co (addL a b) i = co a i + co b i
  | [], b, i => by rw [addL, co_nil]; grind
  | x :: a, [], i => by rw [addL, co_nil]; grind
  | x :: a, y :: b, 0 => by rw [addL, co_zero, co_zero, co_zero]
  | x :: a, y :: b, i + 1 => by rw [addL, co_succ, co_succ, co_succ, co_addL a b i]
theorem co_map (f : α → α) (hf : f 0 = 0) : ∀ (a : List α) (i : Nat), co (a.map f) i = f (co a i)
  | [], i => by rw [List.map_nil, co_nil, hf]
  | x :: a, 0 => by rw [List.map_cons, co_zero, co_zero]
  | x :: a, i + 1 => by rw [List.map_cons, co_succ, co_succ, co_map f hf a i]
def sclL (x : α) (b : List α) : List α := b.map (x * ·)
theorem co_sclL (x : α) (b : List α) (i : Nat) : co (sclL x b) i = x * co b i := co_map _ (by grind) b i
def mulL : List α → List α → List α
  | [], _ => []
  | x :: a, b => addL (sclL x b) (0 :: mulL a b)
/-- the same coefficients -/
def Eqv (a b : List α) : Prop := ∀ i, co a i = co b i
theorem Eqv.refl (a : List α) : Eqv a a := fun _ => rfl
theorem Eqv.symm {a b : List α} (h : Eqv a b) : Eqv b a := fun i => (h i).symm
theorem Eqv.trans {a b c : List α} (h : Eqv a b) (k : Eqv b c) : Eqv a c := fun i => (h i).trans (k i)
theorem Eqv.add {a b c d : List α} (h : Eqv a b) (k : Eqv c d) : Eqv (addL a c) (addL b d) := fun i => by rw [co_addL, co_addL, h i, k i]
theorem Eqv.cons {x y : α} {a b : List α} (e : x = y) (h : Eqv a b) : Eqv (x :: a) (y :: b) := fun i => by
  cases i with
  | zero => rw [co_zero, co_zero, e]
  | succ i => rw [co_succ, co_succ, h i]
theorem Eqv.scl {x : α} {a b : List α} (h : Eqv a b) : Eqv (sclL x a) (sclL x b) := fun i => by rw [co_sclL, co_sclL, h i]
theorem zero_cons : Eqv (0 :: ([] : List α)) [] := fun i => by cases i <;> simp [co]
theorem co_mulL_cons (x : α) (a b : List α) (i : Nat) : co (mulL (x :: a) b) i = x * co b i + co (0 :: mulL a b) i := by rw [mulL, co_addL, co_sclL]
theorem mulL_nil : ∀ a : List α, Eqv (mulL a []) []
  | [] => Eqv.refl _
  | x :: a => fun i => by
    rw [co_mulL_cons, co_nil]
    cases i with
    | zero => rw [co_zero]; grind
    | succ i => rw [co_succ, mulL_nil a i, co_nil]; grind
theorem mulL_consR : ∀ (a b : List α) (y : α), Eqv (mulL a (y :: b)) (addL (sclL y a) (0 :: mulL a b))
  | [], b, y => fun i => by
    rw [co_addL, co_sclL]
    show co [] i = _
    cases i <;> simp [co, mulL] <;> grind
  | x :: a, b, y => fun i => by
    rw [co_mulL_cons, co_addL, co_sclL]
    cases i with
    | zero => rw [co_zero, co_zero, co_zero, co_zero]; grind
    | succ i =>
      rw [co_succ, co_succ, co_succ, co_succ, mulL_consR a b y i, co_addL, co_sclL, co_mulL_cons]
      grind
theorem mulL_comm : ∀ (a b : List α), Eqv (mulL a b) (mulL b a)
  | [], b => (mulL_nil b).symm
  | x :: a, b => fun i => by
    rw [mulL_consR b a x i, co_mulL_cons, co_addL, co_sclL]
    cases i with
    | zero => rw [co_zero, co_zero]
    | succ i => rw [co_succ, co_succ, mulL_comm a b i]
theorem mulL_congR : ∀ (a : List α) {b c : List α}, Eqv b c → Eqv (mulL a b) (mulL a c)
  | [], _, _, _ => Eqv.refl _
  | x :: a, b, c, h => fun i => by
    rw [co_mulL_cons, co_mulL_cons, h i]
    cases i with
    | zero => rw [co_zero, co_zero]
    | succ i => rw [co_succ, co_succ, mulL_congR a h i]
theorem mulL_congL {a b : List α} (c : List α) (h : Eqv a b) : Eqv (mulL a c) (mulL b c) := (mulL_comm a c).trans ((mulL_congR c h).trans (mulL_comm c b))
theorem mulL_add : ∀ (a b c : List α), Eqv (mulL a (addL b c)) (addL (mulL a b) (mulL a c))
  | [], b, c => fun i => by rw [co_addL]; show co [] i = co [] i + co [] i; rw [co_nil]; grind
  | x :: a, b, c => fun i => by
    rw [co_mulL_cons, co_addL, co_addL, co_mulL_cons, co_mulL_cons]
    cases i with
    | zero => rw [co_zero, co_zero, co_zero]; grind
    | succ i => rw [co_succ, co_succ, co_succ, mulL_add a b c i, co_addL]; grind
theorem mulL_scl : ∀ (a b : List α) (x : α), Eqv (mulL (sclL x a) b) (sclL x (mulL a b))
  | [], b, x => Eqv.refl _
  | y :: a, b, x => fun i => by
    show co (mulL ((x * y) :: sclL x a) b) i = _
    rw [co_mulL_cons, co_sclL, co_mulL_cons]
    cases i with
    | zero => rw [co_zero, co_zero]; grind
    | succ i => rw [co_succ, co_succ, mulL_scl a b x i, co_sclL]; grind
theorem mulL_zero (a b : List α) : Eqv (mulL (0 :: a) b) (0 :: mulL a b) := fun i => by
  rw [co_mulL_cons]
  cases i with
  | zero => rw [co_zero]; grind
  | succ i => rw [co_succ]; grind
theorem mulL_assoc : ∀ (a b c : List α), Eqv (mulL (mulL a b) c) (mulL a (mulL b c))
  | [], b, c => Eqv.refl _
  | x :: a, b, c => fun i => by
    have h1 : Eqv (mulL (mulL (x :: a) b) c) (addL (mulL (sclL x b) c) (mulL (0 :: mulL a b) c)) :=
      (mulL_comm _ c).trans ((mulL_add c _ _).trans (Eqv.add (mulL_comm c _) (mulL_comm c _)))
    rw [h1 i, co_addL, mulL_scl b c x i, co_sclL, mulL_zero (mulL a b) c i, co_mulL_cons]
    cases i with
    | zero => rw [co_zero, co_zero]
    | succ i => rw [co_succ, co_succ, mulL_assoc a b c i]
def trim : List α → List α
  | [] => []
  | x :: l => match trim l with
    | [] => if x = 0 then [] else [x]
    | y :: m => x :: y :: m
theorem trim_cons (x : α) (l : List α) : trim (x :: l) = if trim l = [] ∧ x = 0 then [] else x :: trim l := by
  show (match trim l with
    | [] => if x = 0 then [] else [x]
    | y :: m => x :: y :: m) = _
  cases trim l with
  | nil => by_cases h : x = 0 <;> simp [h]
  | cons y m => simp
theorem co_trim : ∀ (l : List α) (i : Nat), co (trim l) i = co l i
  | [], i => rfl
  | x :: l, i => by
    rw [trim_cons]
    have ih := co_trim l
    split
    · rename_i h
      rw [co_nil]
      cases i with
      | zero => rw [co_zero, h.2]
      | succ i => rw [co_succ, ← ih i, h.1, co_nil]
    · cases i with
      | zero => rw [co_zero, co_zero]
      | succ i => rw [co_succ, co_succ, ih i]
theorem trim_zero : ∀ {l : List α}, (∀ i, co l i = 0) → trim l = []
  | [], _ => rfl
  | x :: l, h => by
    rw [trim_cons, if_pos ⟨trim_zero fun i => by have := h (i + 1); rwa [co_succ] at this, by have := h 0; rwa [co_zero] at this⟩]
theorem trim_ext : ∀ {a b : List α}, Eqv a b → trim a = trim b
  | [], b, h => (trim_zero fun i => by rw [← h i, co_nil]).symm
  | x :: a, [], h => trim_zero fun i => by rw [h i, co_nil]
  | x :: a, y :: b, h => by
    have h0 : x = y := by have := h 0; rwa [co_zero, co_zero] at this
    have ht : trim a = trim b := trim_ext fun i => by have := h (i + 1); rwa [co_succ, co_succ] at this
    rw [trim_cons, trim_cons, h0, ht]
theorem trim_trim (l : List α) : trim (trim l) = trim l := trim_ext (co_trim l)
theorem trim_len : ∀ l : List α, (trim l).length ≤ l.length
  | [] => Nat.le_refl _
  | x :: l => by
    rw [trim_cons]
    split
    · exact Nat.zero_le _
    · exact Nat.succ_le_succ (trim_len l)
/-- trimmed, the last is not zero -/
theorem trim_last : ∀ {l : List α}, trim l = l → l ≠ [] → co l (l.length - 1) ≠ 0
  | [], _, h => absurd rfl h
  | [x], h, _ => by
    rw [trim_cons] at h
    intro z
    have z : x = 0 := z
    rw [if_pos ⟨rfl, z⟩] at h
    cases h
  | x :: y :: l, h, _ => by
    rw [trim_cons] at h
    have h2 : trim (y :: l) = y :: l := by
      split at h
      · cases h
      · exact (List.cons.inj h).2
    have := trim_last h2 (by simp)
    simp only [List.length_cons, Nat.add_sub_cancel] at this ⊢
    rw [co_succ]
    exact this
theorem trim_of_last : ∀ {l : List α}, (l ≠ [] → co l (l.length - 1) ≠ 0) → trim l = l
  | [], _ => rfl
  | [x], h => by
    have := h (by simp)
    simp at this
    rw [trim_cons, if_neg (fun z => this z.2)]
    rfl
  | x :: y :: l, h => by
    have h2 : trim (y :: l) = y :: l := trim_of_last fun _ => by
      have := h (by simp)
      simp only [List.length_cons, Nat.add_sub_cancel] at this ⊢
      rwa [co_succ] at this
    rw [trim_cons, h2, if_neg (fun z => by simp at z)]
end

structure Poly (α : Type) [Field α] [DecidableEq α] where
  c : List α
  nm : trim c = c

namespace Poly
variable {α : Type} [Field α] [DecidableEq α]
theorem ext' {p q : Poly α} (h : p.c = q.c) : p = q := by cases p; cases q; cases h; rfl
theorem ext {p q : Poly α} (h : ∀ i, co p.c i = co q.c i) : p = q := ext' (by rw [← p.nm, ← q.nm]; exact trim_ext h)
/-- of any list -/
def of (l : List α) : Poly α := ⟨trim l, trim_trim l⟩
theorem of_c (p : Poly α) : of p.c = p := ext' p.nm
theorem of_ext {a b : List α} (h : Eqv a b) : of a = of b := ext' (trim_ext h)
theorem co_of (l : List α) (i : Nat) : co (of l).c i = co l i := co_trim l i
def C (x : α) : Poly α := of [x]
instance : Add (Poly α) := ⟨fun p q => of (addL p.c q.c)⟩
instance : Mul (Poly α) := ⟨fun p q => of (mulL p.c q.c)⟩
instance : Neg (Poly α) := ⟨fun p => of (sclL (-1) p.c)⟩
instance : Sub (Poly α) := ⟨fun p q => p + -q⟩
theorem co_add (p q : Poly α) (i : Nat) : co (p + q).c i = co p.c i + co q.c i := by
  show co (of (addL p.c q.c)).c i = _
  rw [co_of, co_addL]
theorem co_neg (p : Poly α) (i : Nat) : co (-p).c i = - co p.c i := by
  show co (of (sclL (-1) p.c)).c i = _
  rw [co_of, co_sclL]; grind
theorem co_sub (p q : Poly α) (i : Nat) : co (p - q).c i = co p.c i - co q.c i := by
  show co (p + -q).c i = _
  rw [co_add, co_neg]; grind
theorem co_mul (p q : Poly α) (i : Nat) : co (p * q).c i = co (mulL p.c q.c) i := by
  show co (of (mulL p.c q.c)).c i = _
  rw [co_of]
theorem co_C (x : α) (i : Nat) : co (C x).c i = if i = 0 then x else 0 := by
  show co (of [x]).c i = _
  rw [co_of]
  cases i with
  | zero => simp
  | succ i => simp
def natP (n : Nat) : Poly α := C (@Nat.cast α Semiring.natCast n)
def intP (n : Int) : Poly α := C (@Int.cast α Ring.intCast n)
theorem co_nat0 (x : α) : ∀ i, co (C x).c i = if i = 0 then x else 0 := co_C x
theorem mul_C (x : α) (p : Poly α) (i : Nat) : co (C x * p).c i = x * co p.c i := by
  rw [co_mul, mulL_congL p.c (a := (C x).c) (b := [x]) (fun i => co_of [x] i) i, co_mulL_cons]
  cases i with
  | zero => rw [co_zero]; grind
  | succ i => rw [co_succ]; show _ + co [] i = _; rw [co_nil]; grind
theorem C_mul (x y : α) : C (x * y) = C x * C y := ext fun i => by
  rw [mul_C, co_C, co_C]
  split <;> grind
theorem C_add (x y : α) : C (x + y) = C x + C y := ext fun i => by
  rw [co_add, co_C, co_C, co_C]
  split <;> grind
theorem add_comm' (p q : Poly α) : p + q = q + p := ext fun i => by rw [co_add, co_add]; grind
theorem add_assoc' (p q r : Poly α) : p + q + r = p + (q + r) := ext fun i => by rw [co_add, co_add, co_add, co_add]; grind
theorem mul_comm' (p q : Poly α) : p * q = q * p := ext fun i => by rw [co_mul, co_mul, mulL_comm]
theorem mul_assoc' (p q r : Poly α) : p * q * r = p * (q * r) := ext fun i => by
  rw [co_mul, co_mul, mulL_congL r.c (a := (p * q).c) (b := mulL p.c q.c) (fun i => co_mul p q i) i, mulL_assoc, mulL_congR p.c (b := (q * r).c) (c := mulL q.c r.c) (fun i => co_mul q r i) i]
theorem distr (p q r : Poly α) : p * (q + r) = p * q + p * r := ext fun i => by
  rw [co_mul, co_add, co_mul, co_mul, mulL_congR p.c (b := (q + r).c) (c := addL q.c r.c) (fun i => co_of _ i) i, mulL_add, co_addL]
def npow (p : Poly α) : Nat → Poly α
  | 0 => C 1
  | n + 1 => npow p n * p
instance ring : CommRing (Poly α) where
  add := (· + ·)
  mul := (· * ·)
  natCast := ⟨natP⟩
  ofNat := fun n => ⟨C (OfNat.ofNat n)⟩
  nsmul := ⟨fun n p => natP n * p⟩
  npow := ⟨npow⟩
  neg := (- ·)
  sub := (· - ·)
  intCast := ⟨intP⟩
  zsmul := ⟨fun n p => intP n * p⟩
  add_zero := fun p => ext fun i => by
    show co (p + C 0).c i = _
    rw [co_add, co_C]; split <;> grind
  add_comm := add_comm'
  add_assoc := add_assoc'
  mul_assoc := mul_assoc'
  mul_comm := mul_comm'
  mul_one := fun p => ext fun i => by
    show co (p * C 1).c i = _
    rw [mul_comm', mul_C]; grind
  one_mul := fun p => ext fun i => by
    show co (C 1 * p).c i = _
    rw [mul_C]; grind
  left_distrib := distr
  right_distrib := fun p q r => by
    show (p + q) * r = p * r + q * r
    rw [mul_comm', distr, mul_comm' r p, mul_comm' r q]
  zero_mul := fun p => ext fun i => by
    show co (C 0 * p).c i = co (C 0).c i
    rw [mul_C, co_C]; split <;> grind
  mul_zero := fun p => ext fun i => by
    show co (p * C 0).c i = co (C 0).c i
    rw [mul_comm', mul_C, co_C]; split <;> grind
  pow_zero := fun p => rfl
  pow_succ := fun p n => rfl
  ofNat_succ := fun n => by
    show C (OfNat.ofNat (n + 1)) = C (OfNat.ofNat n) + C 1
    rw [← C_add, Semiring.ofNat_succ]
  ofNat_eq_natCast := fun n => by
    show C (OfNat.ofNat n) = C (@Nat.cast α Semiring.natCast n)
    rw [Semiring.ofNat_eq_natCast]
  nsmul_eq_natCast_mul := fun n p => rfl
  neg_add_cancel := fun p => ext fun i => by
    show co (-p + p).c i = co (C 0).c i
    rw [co_add, co_neg, co_C]; split <;> grind
  sub_eq_add_neg := fun p q => rfl
  neg_zsmul := fun i p => ext fun j => by
    show co (C (@Int.cast α Ring.intCast (-i)) * p).c j = co (-(C (@Int.cast α Ring.intCast i) * p)).c j
    rw [mul_C, co_neg, mul_C, Ring.intCast_neg]; grind
  zsmul_natCast_eq_nsmul := fun n p => by
    show C (@Int.cast α Ring.intCast (n : Int)) * p = C (@Nat.cast α Semiring.natCast n) * p
    rw [Ring.intCast_natCast]
  intCast_ofNat := fun n => by
    show C (@Int.cast α Ring.intCast (OfNat.ofNat n)) = C (OfNat.ofNat n)
    rw [Ring.intCast_ofNat]
  intCast_neg := fun i => ext fun j => by
    show co (C (@Int.cast α Ring.intCast (-i))).c j = co (-(C (@Int.cast α Ring.intCast i))).c j
    rw [co_neg, co_C, co_C, Ring.intCast_neg]; split <;> grind
end Poly
end RG
set_option Elab.async false
set_option linter.all false
/-! Degrees, division. -/
namespace RG
open Lean.Grind
namespace Poly
variable {α : Type} [Field α] [DecidableEq α]
/-- the degree and one; 0 for zero -/
def len (p : Poly α) : Nat := p.c.length
def lc (p : Poly α) : α := co p.c (len p - 1)
theorem co_ge {p : Poly α} {i : Nat} (h : len p ≤ i) : co p.c i = 0 := co_out h
theorem lc_ne {p : Poly α} (h : 0 < len p) : lc p ≠ 0 := trim_last p.nm fun z => by unfold len at h; rw [z] at h; cases h
theorem len_le {p : Poly α} {n : Nat} (h : ∀ i, n ≤ i → co p.c i = 0) : len p ≤ n := by
  by_cases hl : len p ≤ n
  · exact hl
  · exact absurd (h (len p - 1) (by omega)) (lc_ne (by omega))
theorem len_zero {p : Poly α} (h : len p = 0) : p = 0 := ext fun i => by
  rw [co_ge (by omega)]
  show _ = co (C 0).c i
  rw [co_C]; split <;> rfl
theorem len_0 : len (0 : Poly α) = 0 := Nat.le_zero.mp (len_le fun i _ => by show co (C 0).c i = 0; rw [co_C]; split <;> rfl)
theorem len_pos {p : Poly α} (h : p ≠ 0) : 0 < len p := Nat.pos_of_ne_zero fun z => h (len_zero z)
theorem co_0 (i : Nat) : co (0 : Poly α).c i = 0 := co_ge (by rw [len_0]; exact Nat.zero_le i)
theorem len_eq {p : Poly α} {n : Nat} (h : ∀ i, n < i → co p.c i = 0) (hn : co p.c n ≠ 0) : len p = n + 1 ∧ lc p = co p.c n := by
  have h1 : len p ≤ n + 1 := len_le fun i hi => h i (by omega)
  have h2 : n < len p := Nat.lt_of_not_le fun z => hn (co_ge z)
  have h3 : len p = n + 1 := by omega
  refine ⟨h3, ?_⟩
  unfold lc
  rw [h3, Nat.add_sub_cancel]
theorem len_add_le (p q : Poly α) : len (p + q) ≤ max (len p) (len q) := len_le fun i hi => by
  rw [co_add, co_ge (by omega), co_ge (by omega)]; grind
theorem len_neg (p : Poly α) : len (-p) = len p := by
  have h : ∀ p : Poly α, len (-p) ≤ len p := fun p => len_le fun i hi => by rw [co_neg, co_ge hi]; grind
  have h1 := h p
  have h2 := h (-p)
  have : - -p = p := by grind
  rw [this] at h2
  omega
theorem len_sub_le (p q : Poly α) : len (p - q) ≤ max (len p) (len q) := len_le fun i hi => by
  rw [co_sub, co_ge (by omega), co_ge (by omega)]; grind
theorem mulL_top : ∀ (a b : List α) (m n : Nat), (∀ i, m < i → co a i = 0) → (∀ i, n < i → co b i = 0) → co (mulL a b) (m + n) = co a m * co b n ∧ ∀ k, m + n < k → co (mulL a b) k = 0
  | [], b, m, n, ha, hb => ⟨by show co [] _ = co [] _ * _; rw [co_nil, co_nil]; grind, fun k _ => co_nil k⟩
  | x :: a, b, 0, n, ha, hb => by
    have z : Eqv (mulL a b) [] := mulL_congL (a := a) (b := []) b fun i => by rw [co_nil]; have := ha (i + 1) (by omega); rwa [co_succ] at this
    have z2 : ∀ k, co (0 :: mulL a b) k = 0 := fun k => by
      cases k with
      | zero => rw [co_zero]
      | succ k => rw [co_succ, z k, co_nil]
    refine ⟨?_, fun k hk => ?_⟩
    · rw [co_mulL_cons, z2, co_zero, Nat.zero_add]; grind
    · rw [co_mulL_cons, z2, hb k (by omega)]; grind
  | x :: a, b, m + 1, n, ha, hb => by
    obtain ⟨h1, h2⟩ := mulL_top a b m n (fun i hi => by have := ha (i + 1) (by omega); rwa [co_succ] at this) hb
    refine ⟨?_, fun k hk => ?_⟩
    · rw [co_mulL_cons, hb _ (by omega), show m + 1 + n = (m + n) + 1 by omega, co_succ, h1, co_succ]; grind
    · cases k with
      | zero => omega
      | succ k => rw [co_mulL_cons, hb _ (by omega), co_succ, h2 k (by omega)]; grind
theorem mul_ne {x y : α} (hx : x ≠ 0) (hy : y ≠ 0) : x * y ≠ 0 := fun z => by
  have : x * y * (y⁻¹) = x := by grind
  rw [z] at this
  apply hx
  rw [← this]; grind
theorem len_mul {p q : Poly α} (hp : p ≠ 0) (hq : q ≠ 0) : len (p * q) = len p + len q - 1 ∧ lc (p * q) = lc p * lc q := by
  have h1 := len_pos hp
  have h2 := len_pos hq
  obtain ⟨t1, t2⟩ := mulL_top p.c q.c (len p - 1) (len q - 1) (fun i hi => co_ge (by omega)) (fun i hi => co_ge (by omega))
  have h3 : co (p * q).c (len p - 1 + (len q - 1)) = lc p * lc q := by rw [co_mul, t1]; rfl
  obtain ⟨e1, e2⟩ := len_eq (p := p * q) (n := len p - 1 + (len q - 1)) (fun i hi => by rw [co_mul]; exact t2 i hi) (by rw [h3]; exact mul_ne (lc_ne h1) (lc_ne h2))
  exact ⟨by omega, e2.trans h3⟩
theorem mul_zero_iff {p q : Poly α} (h : p * q = 0) : p = 0 ∨ q = 0 := by
  by_cases hp : p = 0
  · exact .inl hp
  · by_cases hq : q = 0
    · exact .inr hq
    · exfalso
      have h1 := (len_mul hp hq).1
      rw [h, len_0] at h1
      have := len_pos hp
      have := len_pos hq
      omega
/-- one quotient, one rest -/
theorem div_unique {a b r s q : Poly α} (h : a * q + r = b * q + s) (hr : len r < len q) (hs : len s < len q) : a = b ∧ r = s := by
  have e : (a - b) * q = s - r := by grind
  have hab : a - b = 0 := by
    by_cases hz : a - b = 0
    · exact hz
    · exfalso
      have hq : q ≠ 0 := fun z => by rw [z, len_0] at hr; omega
      have h1 := (len_mul hz hq).1
      rw [e] at h1
      have h2 := len_sub_le s r
      have h3 := len_pos hz
      omega
  have : a = b := by grind
  subst this
  exact ⟨rfl, by grind⟩
/-- x to the n, times c -/
def mono (n : Nat) (x : α) : Poly α := of (List.replicate n 0 ++ [x])
theorem co_mono (n : Nat) (x : α) (i : Nat) : co (mono n x).c i = if i = n then x else 0 := by
  unfold mono
  rw [co_of]
  induction n generalizing i with
  | zero =>
    cases i with
    | zero => simp
    | succ i => simp
  | succ n ih =>
    cases i with
    | zero => rw [List.replicate_succ, List.cons_append, co_zero]; simp
    | succ i => rw [List.replicate_succ, List.cons_append, co_succ, ih]; simp
theorem len_mono {n : Nat} {x : α} (h : x ≠ 0) : len (mono n x) = n + 1 ∧ lc (mono n x) = x := by
  obtain ⟨a, b⟩ := len_eq (p := mono n x) (n := n) (fun i hi => by rw [co_mono, if_neg (by omega)]) (by rw [co_mono, if_pos rfl]; exact h)
  exact ⟨a, by rw [b, co_mono, if_pos rfl]⟩
/-- there is a quotient and a rest -/
theorem div_exists (q : Poly α) (hq : q ≠ 0) : ∀ (n : Nat) (p : Poly α), len p ≤ n → ∃ a r, p = a * q + r ∧ len r < len q
  | 0, p, h => ⟨0, p, by grind, by have := len_pos hq; omega⟩
  | n + 1, p, h => by
    by_cases hl : len p < len q
    · exact ⟨0, p, by grind, hl⟩
    · have h2 := len_pos hq
      have hp : p ≠ 0 := fun z => by rw [z, len_0] at hl; omega
      have hlq := lc_ne h2
      have hlp := lc_ne (len_pos hp)
      have hx : lc p * (lc q)⁻¹ ≠ 0 := mul_ne hlp (by intro z; apply hlq; grind)
      have hm := len_mono (n := len p - len q) hx
      have hm0 : mono (len p - len q) (lc p * (lc q)⁻¹) ≠ 0 := fun z => by have := hm.1; rw [z, len_0] at this; omega
      have hmq := len_mul hm0 hq
      have hle : len (p - mono (len p - len q) (lc p * (lc q)⁻¹) * q) ≤ n := len_le fun i hi => by
        by_cases hi2 : len p ≤ i
        · rw [co_sub, co_ge hi2, co_ge (by omega)]; grind
        · have e : i = len p - 1 := by omega
          subst e
          have e1 : co (mono (len p - len q) (lc p * (lc q)⁻¹) * q).c (len p - 1) = lc p * (lc q)⁻¹ * lc q := by
            have e0 : len (mono (len p - len q) (lc p * (lc q)⁻¹) * q) = len p := by rw [hmq.1, hm.1]; omega
            have e2 := hmq.2
            rw [hm.2] at e2
            rw [← e2]
            show _ = co _ (len _ - 1)
            rw [e0]
          rw [co_sub, e1]
          show lc p - _ = 0
          grind
      obtain ⟨a, r, e, hr⟩ := div_exists q hq n _ hle
      exact ⟨a + mono (len p - len q) (lc p * (lc q)⁻¹), r, by grind, hr⟩
end Poly
end RG
set_option Elab.async false
set_option linter.all false
set_option maxRecDepth 100000
/-! A field of the program, and what its polynomials' defs give. -/
namespace RG
open PySem Lean.Grind

/-- an object whose methods work in the field α -/
structure Fc (P : Prog) (α : Type) [Field α] [DecidableEq α] where
  c : Nat
  ks : List Nat
  vs : List D
  enc : α → D
  k0 : Nat
  lt0 : ∀ a n, (enc a).lt n = true
  fo_lt : ∀ n, D.lts n vs = true
  eqb : ∀ a b, binop .eq (enc a) (enc b) = some (.bl (decide (a = b)))
  is_zero : ∃ f, P.meth c 0 = some f ∧ ks.contains 0 = false ∧ ∀ d S a, callF P (d + k0) f [.obj c ks vs, enc a] S = ret (.bl (decide (a = 0))) S
  add : ∃ f, P.meth c 1 = some f ∧ ks.contains 1 = false ∧ ∀ d S a b, callF P (d + k0) f [.obj c ks vs, enc a, enc b] S = ret (enc (a + b)) S
  neg : ∃ f, P.meth c 2 = some f ∧ ks.contains 2 = false ∧ ∀ d S a, callF P (d + k0) f [.obj c ks vs, enc a] S = ret (enc (-a)) S
  one : ∃ f, P.meth c 3 = some f ∧ ks.contains 3 = false ∧ ∀ d S, callF P (d + k0) f [.obj c ks vs] S = ret (enc 1) S
  mul : ∃ f, P.meth c 4 = some f ∧ ks.contains 4 = false ∧ ∀ d S a b, callF P (d + k0) f [.obj c ks vs, enc a, enc b] S = ret (enc (a * b)) S
  zero : ∃ f, P.meth c 5 = some f ∧ ks.contains 5 = false ∧ ∀ d S, callF P (d + k0) f [.obj c ks vs] S = ret (enc 0) S
  inv : ∃ f, P.meth c 6 = some f ∧ ks.contains 6 = false ∧ ∀ d S a, a ≠ 0 → callF P (d + k0) f [.obj c ks vs, enc a] S = ret (enc a⁻¹) S
  sub : ∃ f, P.meth c 7 = some f ∧ ks.contains 7 = false ∧ ∀ d S a b, callF P (d + k0) f [.obj c ks vs, enc a, enc b] S = ret (enc (a - b)) S
section
variable {P : Prog} {α : Type} [Field α] [DecidableEq α]
def Fc.fo (F : Fc P α) : D := .obj F.c F.ks F.vs
def Fc.encs (F : Fc P α) (xs : List α) : List D := xs.map F.enc
theorem Fc.encs_lt (F : Fc P α) (n : Nat) : ∀ xs : List α, D.lts n (F.encs xs) = true
  | [] => by show D.lts n [] = true; rw [D.lts]
  | x :: xs => by
    show D.lts n (F.enc x :: F.encs xs) = true
    rw [D.lts, F.lt0, F.encs_lt n xs]; rfl
section
variable {d : Nat} {ρ : Env} {S : Store} {o : E} {es : Es} (F : Fc P α)
theorem Fc.ev_is_zero {a : α} (ho : ev P (callF P (d + F.k0)) o ρ S = ret F.fo S) (he : evs P (callF P (d + F.k0)) es ρ S = ret [F.enc a] S) : ev P (callF P (d + F.k0)) (.meth o 0 es) ρ S = ret (.bl (decide (a = 0))) S := by
  obtain ⟨f, h1, h2, h3⟩ := F.is_zero
  rw [ev_meth ho h1 h2, he]; exact h3 _ _ _
theorem Fc.ev_add {a b : α} (ho : ev P (callF P (d + F.k0)) o ρ S = ret F.fo S) (he : evs P (callF P (d + F.k0)) es ρ S = ret [F.enc a, F.enc b] S) : ev P (callF P (d + F.k0)) (.meth o 1 es) ρ S = ret (F.enc (a + b)) S := by
  obtain ⟨f, h1, h2, h3⟩ := F.add
  rw [ev_meth ho h1 h2, he]; exact h3 _ _ _ _
theorem Fc.ev_neg {a : α} (ho : ev P (callF P (d + F.k0)) o ρ S = ret F.fo S) (he : evs P (callF P (d + F.k0)) es ρ S = ret [F.enc a] S) : ev P (callF P (d + F.k0)) (.meth o 2 es) ρ S = ret (F.enc (-a)) S := by
  obtain ⟨f, h1, h2, h3⟩ := F.neg
  rw [ev_meth ho h1 h2, he]; exact h3 _ _ _
theorem Fc.ev_one (ho : ev P (callF P (d + F.k0)) o ρ S = ret F.fo S) : ev P (callF P (d + F.k0)) (.meth o 3 .nil) ρ S = ret (F.enc 1) S := by
  obtain ⟨f, h1, h2, h3⟩ := F.one
  rw [ev_meth ho h1 h2, evs]; exact h3 _ _
theorem Fc.ev_mul {a b : α} (ho : ev P (callF P (d + F.k0)) o ρ S = ret F.fo S) (he : evs P (callF P (d + F.k0)) es ρ S = ret [F.enc a, F.enc b] S) : ev P (callF P (d + F.k0)) (.meth o 4 es) ρ S = ret (F.enc (a * b)) S := by
  obtain ⟨f, h1, h2, h3⟩ := F.mul
  rw [ev_meth ho h1 h2, he]; exact h3 _ _ _ _
theorem Fc.ev_zero (ho : ev P (callF P (d + F.k0)) o ρ S = ret F.fo S) : ev P (callF P (d + F.k0)) (.meth o 5 .nil) ρ S = ret (F.enc 0) S := by
  obtain ⟨f, h1, h2, h3⟩ := F.zero
  rw [ev_meth ho h1 h2, evs]; exact h3 _ _
theorem Fc.ev_inv {a : α} (ha : a ≠ 0) (ho : ev P (callF P (d + F.k0)) o ρ S = ret F.fo S) (he : evs P (callF P (d + F.k0)) es ρ S = ret [F.enc a] S) : ev P (callF P (d + F.k0)) (.meth o 6 es) ρ S = ret (F.enc a⁻¹) S := by
  obtain ⟨f, h1, h2, h3⟩ := F.inv
  rw [ev_meth ho h1 h2, he]; exact h3 _ _ _ ha
theorem Fc.ev_sub {a b : α} (ho : ev P (callF P (d + F.k0)) o ρ S = ret F.fo S) (he : evs P (callF P (d + F.k0)) es ρ S = ret [F.enc a, F.enc b] S) : ev P (callF P (d + F.k0)) (.meth o 7 es) ρ S = ret (F.enc (a - b)) S := by
  obtain ⟨f, h1, h2, h3⟩ := F.sub
  rw [ev_meth ho h1 h2, he]; exact h3 _ _ _ _
end
theorem trim_snoc0 : ∀ (l : List α), trim (l ++ [0]) = trim l := fun l => trim_ext fun i => by
  unfold co
  rw [List.getD_eq_getElem?_getD, List.getD_eq_getElem?_getD]
  by_cases h : i < l.length
  · rw [List.getElem?_append_left h]
  · rw [List.getElem?_append_right (by omega), List.getElem?_eq_none (by omega : l.length ≤ i)]
    cases e : i - l.length with
    | zero => simp
    | succ j => simp
theorem trim_snoc {l : List α} {x : α} (h : x ≠ 0) : trim (l ++ [x]) = l ++ [x] := trim_of_last fun _ => by
  unfold co
  simp [List.getD_eq_getElem?_getD]
  exact h
theorem at_nat {xs : List D} {n : Nat} {x : D} (h : xs[n]? = some x) : at_ xs (n : Int) = some x := by
  have hn := (List.getElem?_eq_some_iff.mp h).1
  unfold at_ ixN
  rw [if_pos (by omega), if_pos (by omega)]
  simpa using h
/-- trim: the zeros behind are left out -/
theorem trim_run (F : Fc P α) (h1 : P.fn 1 = some F1) (d : Nat) (xs : List α) (v : D) (S : Store) (hi : items S v = some (F.encs xs)) (hl : v = .tup (F.encs xs) ∨ litems S v = some (F.encs xs)) :
    callF P (d + F.k0 + 1) 1 [F.fo, v] S = ret (.tup (F.encs (trim xs))) S := by
  rw [call_eq h1 rfl (by decide)]
  have wh : ∀ n, n ≤ xs.length → ∃ m, m ≤ n ∧ trim (xs.take n) = xs.take m ∧ exec P (callF P (d + F.k0)) (.whl (.and (.bin .gt (.var 2) (.lit (.int 0))) (.meth (.var 0) 0 (.cons (.idx (.var 1) (.bin .sub (.var 2) (.lit (.int 1)))) .nil))) (.cons (.set 2 (.bin .sub (.var 2) (.lit (.int 1)))) .nil)) [some F.fo, some v, some (.int (n : Int))] S = some (.nx [some F.fo, some v, some (.int (m : Int))] S) := by
    intro n
    induction n with
    | zero =>
      intro _
      refine ⟨0, Nat.le_refl _, rfl, whl_no ?_⟩
      simp [ev, bnd, ret, binop]
    | succ n ih =>
      intro hn
      have hx : (F.encs xs)[n]? = some (F.enc xs[n]) := by
        show (xs.map F.enc)[n]? = _
        rw [List.getElem?_map, List.getElem?_eq_getElem (by omega)]; rfl
      have hidx : ev P (callF P (d + F.k0)) (.idx (.var 1) (.bin .sub (.var 2) (.lit (.int 1)))) [some F.fo, some v, some (.int ((n + 1 : Nat) : Int))] S = ret (F.enc xs[n]) S := by
        have e : ((n + 1 : Nat) : Int) - 1 = (n : Int) := by omega
        simp only [ev, bnd, ret, binop, List.getElem?_cons_succ, List.getElem?_cons_zero, Option.bind_some, e, hi, at_nat hx]
      have hz : ev P (callF P (d + F.k0)) (.meth (.var 0) 0 (.cons (.idx (.var 1) (.bin .sub (.var 2) (.lit (.int 1)))) .nil)) [some F.fo, some v, some (.int ((n + 1 : Nat) : Int))] S = ret (.bl (decide (xs[n] = 0))) S := by
        refine F.ev_is_zero (ev_var rfl) ?_
        rw [evs, hidx, bnd_ret, evs, bnd_ret]
      have hc : ev P (callF P (d + F.k0)) (.and (.bin .gt (.var 2) (.lit (.int 0))) (.meth (.var 0) 0 (.cons (.idx (.var 1) (.bin .sub (.var 2) (.lit (.int 1)))) .nil))) [some F.fo, some v, some (.int ((n + 1 : Nat) : Int))] S = ret (.bl (decide (xs[n] = 0))) S := by
        have e0 : (0 : Int) < ((n + 1 : Nat) : Int) := by omega
        rw [ev]
        have : ev P (callF P (d + F.k0)) (.bin .gt (.var 2) (.lit (.int 0))) [some F.fo, some v, some (.int ((n + 1 : Nat) : Int))] S = ret (.bl true) S := by
          simp only [ev, bnd, ret, binop, List.getElem?_cons_succ, List.getElem?_cons_zero, Option.bind_some, e0, decide_true]
        rw [this, bnd_ret]
        exact hz
      have htk : xs.take (n + 1) = xs.take n ++ [xs[n]] := by
        rw [List.take_add_one, List.getElem?_eq_getElem (by omega)]; rfl
      by_cases h0 : xs[n] = 0
      · obtain ⟨m, hm, ht, he⟩ := ih (by omega)
        refine ⟨m, by omega, by rw [htk, h0, trim_snoc0]; exact ht, ?_⟩
        rw [decide_eq_true h0] at hc
        rw [whl_nx (ρ' := [some F.fo, some v, some (.int (n : Int))]) (S' := S) hc ?_]
        · exact he
        · have e : ((n + 1 : Nat) : Int) - 1 = (n : Int) := by omega
          simp only [execs, exec, ev, bnd, ret, stp, binop, List.getElem?_cons_succ, List.getElem?_cons_zero, Option.bind_some, e]
          rfl
      · refine ⟨n + 1, Nat.le_refl _, by rw [htk, trim_snoc h0], ?_⟩
        rw [decide_eq_false h0] at hc
        exact whl_no hc
  obtain ⟨m, hm, ht, he⟩ := wh xs.length (Nat.le_refl _)
  rw [List.take_length] at ht
  rw [B1, execs_cons]
  have s1 : exec P (callF P (d + F.k0)) (.set 2 (.bi .len (.cons (.var 1) .nil))) ([F.fo, v].map some ++ List.replicate (3 - 2) none) S = some (.nx [some F.fo, some v, some (.int (xs.length : Int))] S) := by
    have : (F.encs xs).length = xs.length := by unfold Fc.encs; simp
    simp [exec, ev, evs, bnd, ret, stp, biop, hi, this]
  rw [s1, sq_nx, execs_cons, he, sq_nx, execs_cons]
  have hcut : cut (F.encs xs) none (some (m : Int)) = F.encs (xs.take m) := by
    have : (F.encs xs).length = xs.length := by unfold Fc.encs; simp
    unfold cut sIx
    dsimp only
    rw [if_neg (by omega)]
    simp only [this, Int.toNat_natCast, List.drop_zero, Nat.sub_zero]
    unfold Fc.encs
    rw [← List.map_take, Nat.min_eq_left hm]
  have hsl : slice S v none (some (m : Int)) = some (.tup (F.encs (xs.take m))) ∨ slice S v none (some (m : Int)) = some (.lst (F.encs (xs.take m))) := by
    rcases hl with rfl | hl
    · exact .inl (by show some (D.tup (cut (F.encs xs) none (some (m : Int)))) = _; rw [hcut])
    · right
      have hs : slice S v none (some (m : Int)) = (litems S v).map fun xs => .lst (cut xs none (some (m : Int))) := by
        cases v <;> first | rfl | cases hl
      rw [hs, hl, Option.map_some, hcut]
  have s3 : exec P (callF P (d + F.k0)) (.ret (.bi .tuple (.cons (.slc (.var 1) none (some ()) .bad (.var 2)) .nil))) [some F.fo, some v, some (.int (m : Int))] S = some (.rt (.tup (F.encs (xs.take m))) S) := by
    rcases hsl with hsl | hsl <;> simp [exec, ev, evs, bnd, ret, stp, biop, hsl, items]
  rw [s3]
  show fin false S.length (some (.rt _ S)) = _
  rw [fin_rt (by rw [D.lt]; exact F.encs_lt _ _), List.take_length, ht]
/-- a tuple of coefficients -/
def Fc.pl (F : Fc P α) (xs : List α) : D := .tup (F.encs xs)
theorem Fc.encs_len (F : Fc P α) (xs : List α) : (F.encs xs).length = xs.length := by unfold Fc.encs; simp
theorem Fc.encs_get (F : Fc P α) {xs : List α} {i : Nat} (h : i < xs.length) : (F.encs xs)[i]? = some (F.enc xs[i]) := by
  show (xs.map F.enc)[i]? = _
  rw [List.getElem?_map, List.getElem?_eq_getElem h]; rfl
theorem Fc.encs_set (F : Fc P α) (xs : List α) (i : Nat) (x : α) : (F.encs xs).set i (F.enc x) = F.encs (xs.set i x) := by
  unfold Fc.encs
  rw [List.map_set]
theorem Fc.pl_lt (F : Fc P α) (xs : List α) (n : Nat) : (F.pl xs).lt n = true := by
  show (D.tup _).lt n = true
  rw [D.lt]; exact F.encs_lt n xs
theorem Fc.fo_ltt (F : Fc P α) (n : Nat) : F.fo.lt n = true := by
  show (D.obj _ _ _).lt n = true
  rw [D.lt]; exact F.fo_lt n
theorem len_addL : ∀ (a b : List α), (addL a b).length = max a.length b.length
  | [], b => by simp [addL]
  | x :: a, [] => by simp [addL]
  | x :: a, y :: b => by simp [addL, len_addL a b]
theorem addL_get : ∀ {a b : List α} {i : Nat} (ha : i < a.length) (hb : i < b.length), (addL a b)[i]? = some (a[i] + b[i])
  | x :: a, y :: b, 0, _, _ => rfl
  | x :: a, y :: b, i + 1, ha, hb => by
    show (addL a b)[i]? = _
    exact addL_get (by simpa using ha) (by simpa using hb)
theorem addL_drop : ∀ {a b : List α} {i : Nat}, b.length ≤ i → (addL a b).drop i = a.drop i ∨ a.length < b.length
  | [], [], i, _ => .inl rfl
  | [], y :: b, i, _ => .inr (by simp)
  | x :: a, [], i, _ => .inl rfl
  | x :: a, y :: b, 0, h => by simp at h
  | x :: a, y :: b, i + 1, h => by
    rcases addL_drop (a := a) (b := b) (i := i) (by simpa using h) with e | e
    · exact .inl e
    · exact .inr (by simpa using e)
theorem addL_comm : ∀ (a b : List α), addL a b = addL b a
  | [], [] => rfl
  | [], y :: b => rfl
  | x :: a, [] => rfl
  | x :: a, y :: b => by rw [addL, addL, addL_comm a b]; congr 1; grind
/-- the list cell that a def has made -/
theorem cell_at (S : Store) (c : Cell) : (S ++ [c])[S.length]? = some c := by simp
theorem cell_set (S : Store) (c e : Cell) : (S ++ [c]).set S.length e = S ++ [e] := by
  rw [List.set_append_right _ _ (Nat.le_refl _), Nat.sub_self]; rfl
theorem take_cell (S : Store) (c : Cell) : (S ++ [c]).take S.length = S := by simp
/-- o[i] = v on the def's own list -/
theorem sub_run {cl : Nat → List D → Store → R D} {ρ : Env} {S : Store} {xs : List D} {l i e : E} {v : D} {j : Nat} (he : ev P cl e ρ (S ++ [.lst xs]) = ret v (S ++ [.lst xs])) (hl : ev P cl l ρ (S ++ [.lst xs]) = ret (.ref S.length) (S ++ [.lst xs]))
    (hi : ev P cl i ρ (S ++ [.lst xs]) = ret (.int (j : Int)) (S ++ [.lst xs])) (hj : j < xs.length) (hv : v.lt S.length = true) : exec P cl (.sub l i e) ρ (S ++ [.lst xs]) = some (.nx ρ (S ++ [.lst (xs.set j v)])) := by
  rw [exec, he, stp_ret, hl, stp_ret, hi, stp_ret]
  simp only [cell_at, hv, if_true]
  unfold ixN
  rw [if_pos (by omega), if_pos (by omega), Option.map_some, cell_set]
  simp
theorem idx_run {cl : Nat → List D → Store → R D} {ρ : Env} {S : Store} {xs : List D} {a b : E} {v x : D} {j : Nat} (ha : ev P cl a ρ S = ret v S) (hb : ev P cl b ρ S = ret (.int (j : Int)) S) (hi : items S v = some xs) (hx : xs[j]? = some x) : ev P cl (.idx a b) ρ S = ret x S := by
  rw [ev, ha, bnd_ret, hb, bnd_ret]
  simp only [hi, at_nat hx, Option.bind_some]
theorem own_run {cl : Nat → List D → Store → R D} {ρ : Env} {S : Store} {xs : List D} {i : Nat} {l : L} (h : evL P cl l ρ S = ret xs S) : exec P cl (.set i (.own l)) ρ S = some (.nx (ρ.set i (some (.ref S.length))) (S ++ [.lst xs])) := by
  rw [exec, ev, h, bnd_ret]
  rfl
theorem ofs_run {cl : Nat → List D → Store → R D} {ρ : Env} {S : Store} {xs : List D} {v : D} {e : E} (he : ev P cl e ρ S = ret v S) (hi : items S v = some xs) : evL P cl (.ofs e) ρ S = ret xs S := by
  rw [evL, he, bnd_ret, hi]
  rfl
theorem enum_run {cl : Nat → List D → Store → R D} {ρ : Env} {S : Store} {xs : List D} {e : E} (he : ev P cl e ρ S = ret (.tup xs) S) : evIt P cl (.enum e) ρ S = ret (xs.zipIdx.map fun p => .tup [.int p.2, p.1], none) S := by
  rw [evIt, he, bnd_ret]
  rfl
theorem enum_get' {xs : List D} {i : Nat} {x : D} (h : (xs.zipIdx.map fun p => D.tup [.int p.2, p.1])[i]? = some x) : ∃ y, xs[i]? = some y ∧ x = .tup [.int (i : Int), y] := by
  rw [List.getElem?_map, List.getElem?_zipIdx] at h
  cases e : xs[i]? with
  | none => rw [e] at h; cases h
  | some y =>
    rw [e] at h
    refine ⟨y, rfl, ?_⟩
    simpa using h.symm
def paddBody : Ss := .cons (.sub (.var 3) (.var 4) (.meth (.var 0) 1 (.cons (.idx (.var 3) (.var 4)) (.cons (.var 5) .nil)))) .nil
theorem padd_body (F : Fc P α) (d : Nat) {A B : D} {S : Store} {zs : List α} {i : Nat} {y : α} (hi : i < zs.length) :
    execs P (callF P (d + F.k0)) paddBody [some F.fo, some A, some B, some (.ref S.length), some (.int (i : Int)), some (F.enc y)] (S ++ [.lst (F.encs zs)]) = some (.nx [some F.fo, some A, some B, some (.ref S.length), some (.int (i : Int)), some (F.enc y)] (S ++ [.lst (F.encs (zs.set i (zs[i] + y)))])) := by
  have h3 : ev P (callF P (d + F.k0)) (.var 3) [some F.fo, some A, some B, some (.ref S.length), some (.int (i : Int)), some (F.enc y)] (S ++ [.lst (F.encs zs)]) = ret (.ref S.length) (S ++ [.lst (F.encs zs)]) := ev_var rfl
  have h4 : ev P (callF P (d + F.k0)) (.var 4) [some F.fo, some A, some B, some (.ref S.length), some (.int (i : Int)), some (F.enc y)] (S ++ [.lst (F.encs zs)]) = ret (.int (i : Int)) (S ++ [.lst (F.encs zs)]) := ev_var rfl
  have hit : items (S ++ [.lst (F.encs zs)]) (.ref S.length) = some (F.encs zs) := by
    show (match (S ++ [Cell.lst (F.encs zs)])[S.length]? with | some (.lst xs) => some xs | _ => none) = _
    rw [cell_at]
  have he := F.ev_add (d := d) (o := .var 0) (es := .cons (.idx (.var 3) (.var 4)) (.cons (.var 5) .nil)) (a := zs[i]) (b := y) (ρ := [some F.fo, some A, some B, some (.ref S.length), some (.int (i : Int)), some (F.enc y)]) (S := S ++ [.lst (F.encs zs)]) (ev_var rfl) (by
    rw [evs, idx_run h3 h4 hit (F.encs_get hi), bnd_ret, evs, ev_var (d := F.enc y) rfl, bnd_ret, evs, bnd_ret, bnd_ret])
  unfold paddBody
  rw [execs_cons, sub_run he h3 h4 (by rw [F.encs_len]; exact hi) (F.lt0 _ _), sq_nx, execs, F.encs_set]
theorem take_set_step {l1 l2 : List α} {i : Nat} {x : α} (h1 : l1[i]? = some x) (h2 : i < l2.length) (hl : i ≤ l1.length) : (l1.take i ++ l2.drop i).set i x = l1.take (i + 1) ++ l2.drop (i + 1) := by
  have hlt : (l1.take i).length = i := by rw [List.length_take]; omega
  rw [List.set_append_right _ _ (by omega), hlt, Nat.sub_self, List.drop_eq_getElem_cons h2, List.set_cons_zero, List.take_add_one, h1, List.append_assoc]
  rfl
theorem padd_loop (F : Fc P α) (d : Nat) (as bs : List α) (hlen : bs.length ≤ as.length) (S : Store) (v4 v5 : Option D) : ∃ ρ', exec P (callF P (d + F.k0)) (.for_ (.tup [(.name 4), (.name 5)]) (.enum (.var 2)) paddBody) [some F.fo, some (F.pl as), some (F.pl bs), some (.ref S.length), v4, v5] (S ++ [.lst (F.encs as)]) = some (.nx ρ' (S ++ [.lst (F.encs (addL as bs))])) ∧ ∃ w4 w5, ρ' = [some F.fo, some (F.pl as), some (F.pl bs), some (.ref S.length), w4, w5] := by
  rw [for_run (enum_run (xs := F.encs bs) (ev_var rfl))]
  obtain ⟨ρ', S', e, w4, w5, rfl, rfl⟩ := forGo_inv (t := .tup [(.name 4), (.name 5)]) (g := none) (body := fun ρ S => execs P (callF P (d + F.k0)) paddBody ρ S) (xs := (F.encs bs).zipIdx.map fun p => .tup [.int p.2, p.1])
    (fun i ρ St => ∃ w4 w5, ρ = [some F.fo, some (F.pl as), some (F.pl bs), some (.ref S.length), w4, w5] ∧ St = S ++ [.lst (F.encs ((addL as bs).take i ++ as.drop i))]) (ρ := [some F.fo, some (F.pl as), some (F.pl bs), some (.ref S.length), v4, v5]) (S := S ++ [.lst (F.encs as)]) ⟨v4, v5, rfl, by rw [List.take_zero, List.drop_zero, List.nil_append]⟩ (by
      rintro i x ρ St hx ⟨w4, w5, rfl, rfl⟩
      obtain ⟨y, hy, rfl⟩ := enum_get' hx
      have hi : i < bs.length := by
        have := (List.getElem?_eq_some_iff.mp hy).1
        rwa [F.encs_len] at this
      rw [F.encs_get hi] at hy
      cases hy
      have hia : i < as.length := by omega
      have hAi := addL_get hia hi
      have hAl : i < (addL as bs).length := (List.getElem?_eq_some_iff.mp hAi).1
      have hlt : ((addL as bs).take i).length = i := by rw [List.length_take]; omega
      have hzl : i < ((addL as bs).take i ++ as.drop i).length := by rw [List.length_append, hlt, List.length_drop]; omega
      refine ⟨[some F.fo, some (F.pl as), some (F.pl bs), some (.ref S.length), some (.int (i : Int)), some (F.enc bs[i])], _, _, rfl, .inl (padd_body F d hzl), rfl, _, _, rfl, ?_⟩
      have hz : ((addL as bs).take i ++ as.drop i)[i] = as[i] := by
        rw [List.getElem_append_right (by omega)]
        simp [hlt]
      rw [hz, take_set_step hAi hia (by omega)])
  refine ⟨_, e.trans ?_, w4, w5, rfl⟩
  have hl : ((F.encs bs).zipIdx.map fun p => D.tup [.int p.2, p.1]).length = bs.length := by simp [F.encs_len]
  rw [hl]
  have : (addL as bs).take bs.length ++ as.drop bs.length = addL as bs := by
    rcases addL_drop (a := as) (b := bs) (i := bs.length) (Nat.le_refl _) with q | q
    · rw [← q, List.take_append_drop]
    · omega
  rw [this]
theorem padd_rest (F : Fc P α) (h1 : P.fn 1 = some F1) (d : Nat) (as bs : List α) (hlen : bs.length ≤ as.length) (S : Store) (v3 v4 v5 : Option D) :
    execs P (callF P (d + 1 + F.k0)) (.cons (.set 3 (.own (.ofs (.var 1)))) (.cons (.for_ (.tup [(.name 4), (.name 5)]) (.enum (.var 2)) paddBody) (.cons (.ret (.call 1 (.cons (.var 0) (.cons (.var 3) .nil)))) .nil))) [some F.fo, some (F.pl as), some (F.pl bs), v3, v4, v5] S = some (.rt (F.pl (trim (addL as bs))) (S ++ [.lst (F.encs (addL as bs))])) := by
  rw [execs_cons, own_run (ofs_run (xs := F.encs as) (ev_var rfl) rfl), sq_nx, execs_cons]
  obtain ⟨ρ', e, w4, w5, rfl⟩ := padd_loop F (d + 1) as bs hlen S v4 v5
  have e' : exec P (callF P (d + 1 + F.k0)) (.for_ (.tup [(.name 4), (.name 5)]) (.enum (.var 2)) paddBody) ([some F.fo, some (F.pl as), some (F.pl bs), v3, v4, v5].set 3 (some (.ref S.length))) (S ++ [.lst (F.encs as)]) = _ := e
  rw [e', sq_nx, execs_cons]
  have hit : items (S ++ [.lst (F.encs (addL as bs))]) (.ref S.length) = some (F.encs (addL as bs)) := by
    show (match (S ++ [Cell.lst (F.encs (addL as bs))])[S.length]? with | some (.lst xs) => some xs | _ => none) = _
    rw [cell_at]
  have hlit : litems (S ++ [.lst (F.encs (addL as bs))]) (.ref S.length) = some (F.encs (addL as bs)) := by
    show (match (S ++ [Cell.lst (F.encs (addL as bs))])[S.length]? with | some (.lst xs) => some xs | _ => none) = _
    rw [cell_at]
  have ht := trim_run F h1 d (addL as bs) (.ref S.length) (S ++ [.lst (F.encs (addL as bs))]) hit (.inr hlit)
  have : d + 1 + F.k0 = d + F.k0 + 1 := by omega
  rw [this, exec, ev, evs, ev_var (d := F.fo) rfl, bnd_ret, evs, ev_var (d := .ref S.length) rfl, bnd_ret, evs, bnd_ret, bnd_ret, bnd_ret, ht]
  rfl
theorem padd_run (F : Fc P α) (h1 : P.fn 1 = some F1) (h5 : P.fn 5 = some F5) (d : Nat) (xs ys : List α) (S : Store) :
    callF P (d + F.k0 + 2) 5 [F.fo, F.pl xs, F.pl ys] S = ret (F.pl (trim (addL xs ys))) S := by
  have hd : d + F.k0 + 2 = (d + 1 + F.k0) + 1 := by omega
  rw [hd, call_eq h5 rfl (by decide), B5, execs_cons]
  have hlx : ∀ zs : List α, items S (F.pl zs) = some (F.encs zs) := fun zs => rfl
  have fin : ∀ (as bs : List α), bs.length ≤ as.length → RG.fin false S.length (execs P (callF P (d + 1 + F.k0)) (.cons (.set 3 (.own (.ofs (.var 1)))) (.cons (.for_ (.tup [(.name 4), (.name 5)]) (.enum (.var 2)) paddBody) (.cons (.ret (.call 1 (.cons (.var 0) (.cons (.var 3) .nil)))) .nil))) [some F.fo, some (F.pl as), some (F.pl bs), none, none, none] S) = ret (F.pl (trim (addL as bs))) S := fun as bs h => by
    rw [padd_rest F h1 d as bs h S none none none, fin_rt (F.pl_lt _ _), take_cell]
  have hc : ev P (callF P (d + 1 + F.k0)) (.bin .lt (.bi .len (.cons (.var 1) .nil)) (.bi .len (.cons (.var 2) .nil))) ([F.fo, F.pl xs, F.pl ys].map some ++ List.replicate (6 - 3) none) S = ret (.bl (decide ((xs.length : Int) < (ys.length : Int)))) S := by
    simp only [ev, evs, bnd, ret, List.map_cons, List.map_nil, List.cons_append, List.getElem?_cons_succ, List.getElem?_cons_zero, biop, hlx, Option.map_some, Option.bind_some, F.encs_len, binop]
  rw [exec, hc, stp_ret]
  by_cases hlt : (xs.length : Int) < (ys.length : Int)
  · rw [decide_eq_true hlt]
    have s1 : execs P (callF P (d + 1 + F.k0)) (.cons (.par [1, 2] (.cons (.var 2) (.cons (.var 1) .nil))) .nil) ([F.fo, F.pl xs, F.pl ys].map some ++ List.replicate (6 - 3) none) S = some (.nx [some F.fo, some (F.pl ys), some (F.pl xs), none, none, none] S) := by
      simp only [execs, exec, ev, evs, bnd, ret, List.map_cons, List.map_nil, List.cons_append, List.getElem?_cons_succ, List.getElem?_cons_zero, setAll, Option.map_some]
      rfl
    show RG.fin false S.length (sq (execs P _ _ _ _) _) = _
    rw [s1, sq_nx, addL_comm xs ys]
    exact fin ys xs (by omega)
  · rw [decide_eq_false hlt]
    show RG.fin false S.length (sq (execs P _ .nil _ _) _) = _
    rw [execs, sq_nx]
    exact fin xs ys (by omega)
end
end RG
set_option Elab.async false
set_option linter.all false
set_option maxRecDepth 100000
/-! More of the polynomials' defs. -/
namespace RG
open PySem Lean.Grind
section
variable {P : Prog} {α : Type} [Field α] [DecidableEq α]
def Fc.po (F : Fc P α) (p : Poly α) : D := F.pl p.c
theorem Fc.po_lt (F : Fc P α) (p : Poly α) (n : Nat) : (F.po p).lt n = true := F.pl_lt p.c n
theorem Poly.zero_c : (0 : Poly α).c = [] := List.eq_nil_of_length_eq_zero Poly.len_0
theorem Fc.po_zero (F : Fc P α) : F.po (0 : Poly α) = .tup [] := by
  show F.pl (0 : Poly α).c = _
  rw [Poly.zero_c]
  rfl
theorem tuple_lst {cl : Nat → List D → Store → R D} {ρ : Env} {S : Store} {xs : List D} {l : L} (h : evL P cl l ρ S = ret xs S) : ev P cl (.bi .tuple (.cons (.frz l) .nil)) ρ S = ret (.tup xs) S := by
  rw [ev, evs, ev, h, bnd_ret, bnd_ret, evs, bnd_ret, bnd_ret]
  rfl
theorem ret_run {cl : Nat → List D → Store → R D} {ρ : Env} {S S' : Store} {e : E} {v : D} (h : ev P cl e ρ S = ret v S') : execs P cl (.cons (.ret e) .nil) ρ S = some (.rt v S') := by
  rw [execs, exec, h, stp_ret]
theorem seq_run {cl : Nat → List D → Store → R D} {ρ : Env} {S : Store} {xs : List D} {e : E} (he : ev P cl e ρ S = ret (.tup xs) S) : evIt P cl (.seq e) ρ S = ret (xs, none) S := by
  rw [evIt, he, bnd_ret]
  rfl
theorem pneg_run (F : Fc P α) (h6 : P.fn 6 = some F6) (d : Nat) (xs : List α) (hz : xs.length ≤ 100000) (S : Store) : callF P (d + F.k0 + 1) 6 [F.fo, F.pl xs] S = ret (F.pl (xs.map fun x => -x)) S := by
  rw [call_eq h6 rfl (by decide), B6, ret_run (S' := S) (v := F.pl (xs.map fun x => -x)), fin_rt (F.pl_lt _ _), List.take_length]
  refine tuple_lst (comp_map (xs := F.encs xs) (g := none) (seq_run (ev_var rfl)) rfl (by rw [F.encs_len, F.encs_len, List.length_map]) (by rw [F.encs_len]; exact hz) fun i x hx => ?_)
  have hi : i < xs.length := by
    have := (List.getElem?_eq_some_iff.mp hx).1
    rwa [F.encs_len] at this
  rw [F.encs_get hi] at hx
  cases hx
  refine ⟨_, F.enc (-xs[i]), rfl, F.ev_neg (a := xs[i]) (ev_var rfl) (by rw [evs, ev_var (d := F.enc xs[i]) rfl, bnd_ret, evs, bnd_ret]), ?_⟩
  rw [F.encs_get (by rw [List.length_map]; exact hi)]
  simp
theorem co_neg_map (xs : List α) (i : Nat) : co (xs.map fun x => -x) i = - co xs i := co_map _ (by grind) xs i
/-- calls with evaluated arguments -/
theorem call2 {cl : Nat → List D → Store → R D} {ρ : Env} {S : Store} {f : Nat} {a b : E} {x y : D} (ha : ev P cl a ρ S = ret x S) (hb : ev P cl b ρ S = ret y S) : ev P cl (.call f (.cons a (.cons b .nil))) ρ S = cl f [x, y] S := by
  rw [ev, evs, ha, bnd_ret, evs, hb, bnd_ret, evs, bnd_ret, bnd_ret, bnd_ret]
theorem call3 {cl : Nat → List D → Store → R D} {ρ : Env} {S : Store} {f : Nat} {a b c : E} {x y z : D} (ha : ev P cl a ρ S = ret x S) (hb : ev P cl b ρ S = ret y S) (hc : ev P cl c ρ S = ret z S) : ev P cl (.call f (.cons a (.cons b (.cons c .nil)))) ρ S = cl f [x, y, z] S := by
  rw [ev, evs, ha, bnd_ret, evs, hb, bnd_ret, evs, hc, bnd_ret, evs, bnd_ret, bnd_ret, bnd_ret, bnd_ret]
theorem call1 {cl : Nat → List D → Store → R D} {ρ : Env} {S : Store} {f : Nat} {a : E} {x : D} (ha : ev P cl a ρ S = ret x S) : ev P cl (.call f (.cons a .nil)) ρ S = cl f [x] S := by
  rw [ev, evs, ha, bnd_ret, evs, bnd_ret, bnd_ret]
theorem padd_po (F : Fc P α) (h1 : P.fn 1 = some F1) (h5 : P.fn 5 = some F5) (d : Nat) (p q : Poly α) (S : Store) : callF P (d + F.k0 + 2) 5 [F.fo, F.po p, F.po q] S = ret (F.po (p + q)) S := padd_run F h1 h5 d p.c q.c S
theorem psub_po (F : Fc P α) (h1 : P.fn 1 = some F1) (h5 : P.fn 5 = some F5) (h6 : P.fn 6 = some F6) (h7 : P.fn 7 = some F7) (d : Nat) (p q : Poly α) (hz : q.len ≤ 100000) (S : Store) : callF P (d + F.k0 + 3) 7 [F.fo, F.po p, F.po q] S = ret (F.po (p - q)) S := by
  rw [call_eq h7 rfl (by decide), B7]
  have e1 := pneg_run F h6 (d + 1) q.c hz S
  have e2 := padd_run F h1 h5 d p.c (q.c.map fun x => -x) S
  have hd : d + 1 + F.k0 + 1 = d + F.k0 + 2 := by omega
  rw [hd] at e1
  rw [ret_run (S' := S) (v := F.po (p - q)), fin_rt (F.po_lt _ _), List.take_length]
  rw [call3 (x := F.fo) (y := F.po p) (z := F.pl (q.c.map fun x => -x)) (ev_var rfl) (ev_var rfl) (by rw [call2 (x := F.fo) (y := F.po q) (ev_var rfl) (ev_var rfl)]; exact e1)]
  refine e2.trans ?_
  have : trim (addL p.c (q.c.map fun x => -x)) = (p - q).c := by
    rw [← (p - q).nm]
    refine trim_ext fun i => ?_
    rw [Poly.co_sub, co_addL, co_neg_map]; grind
  rw [this]
  rfl
/-- x times p, for x not zero -/
theorem map_mul_c (p : Poly α) (x : α) (hx : x ≠ 0) : p.c.map (x * ·) = (Poly.C x * p).c := by
  have h1 : trim (p.c.map (x * ·)) = (Poly.C x * p).c := by
    rw [← (Poly.C x * p).nm]
    refine trim_ext fun i => ?_
    rw [Poly.mul_C]
    exact co_sclL x p.c i
  rw [← h1]
  refine (trim_of_last fun hne => ?_).symm
  have hp : p.c ≠ [] := fun z => hne (by rw [z]; rfl)
  have := trim_last p.nm hp
  rw [List.length_map]
  have e : co (p.c.map (x * ·)) (p.c.length - 1) = x * co p.c (p.c.length - 1) := co_sclL x p.c _
  rw [e]
  exact Poly.mul_ne hx this
theorem pscale_po (F : Fc P α) (h8 : P.fn 8 = some F8) (d : Nat) (p : Poly α) (x : α) (hz : p.len ≤ 100000) (S : Store) : callF P (d + F.k0 + 1) 8 [F.fo, F.po p, F.enc x] S = ret (F.po (Poly.C x * p)) S := by
  rw [call_eq h8 rfl (by decide), B8, execs_cons]
  have hz0 : ev P (callF P (d + F.k0)) (.meth (.var 0) 0 (.cons (.var 2) .nil)) ([F.fo, F.po p, F.enc x].map some ++ List.replicate (4 - 3) none) S = ret (.bl (decide (x = 0))) S := F.ev_is_zero (ev_var rfl) (by rw [evs, ev_var (d := F.enc x) rfl, bnd_ret, evs, bnd_ret])
  rw [exec, hz0, stp_ret]
  by_cases hx : x = 0
  · rw [decide_eq_true hx]
    show fin false S.length (sq (execs P _ (.cons (.ret (.tup .nil)) .nil) _ _) _) = _
    rw [ret_run (S' := S) (v := .tup []) (by rw [ev, evs, bnd_ret])]
    show fin false S.length (some (.rt (.tup []) S)) = _
    rw [fin_rt (by rw [D.lt, D.lts]), List.take_length]
    have : Poly.C x * p = 0 := by
      rw [hx]
      show (0 : Poly α) * p = 0
      grind
    rw [this, F.po_zero]
  · rw [decide_eq_false hx]
    show fin false S.length (sq (execs P _ .nil _ _) _) = _
    rw [execs, sq_nx, execs_cons]
    have h1 : ev P (callF P (d + F.k0)) (.bin .eq (.var 2) (.meth (.var 0) 3 .nil)) ([F.fo, F.po p, F.enc x].map some ++ List.replicate (4 - 3) none) S = ret (.bl (decide (x = 1))) S := by
      rw [ev, ev_var (d := F.enc x) rfl, bnd_ret, F.ev_one (ev_var rfl), bnd_ret, F.eqb]
      rfl
    rw [exec, h1, stp_ret]
    by_cases h1' : x = 1
    · rw [decide_eq_true h1']
      show fin false S.length (sq (execs P _ (.cons (.ret (.bi .tuple (.cons (.var 1) .nil))) .nil) _ _) _) = _
      rw [ret_run (S' := S) (v := F.po p) (by rw [ev, evs, ev_var (d := F.po p) rfl, bnd_ret, evs, bnd_ret, bnd_ret]; rfl)]
      show fin false S.length (some (.rt (F.po p) S)) = _
      rw [fin_rt (F.po_lt _ _), List.take_length]
      have : Poly.C x * p = p := by
        rw [h1']
        show (1 : Poly α) * p = p
        grind
      rw [this]
    · rw [decide_eq_false h1']
      show fin false S.length (sq (execs P _ .nil _ _) _) = _
      rw [execs, sq_nx, ret_run (S' := S) (v := F.po (Poly.C x * p)), fin_rt (F.po_lt _ _), List.take_length]
      have hxc := map_mul_c p x hx
      refine tuple_lst (comp_map (xs := F.encs p.c) (g := none) (seq_run (ev_var rfl)) rfl (by rw [F.encs_len, F.encs_len, ← hxc, List.length_map]) (by rw [F.encs_len]; exact hz) fun i y hy => ?_)
      have hi : i < p.c.length := by
        have := (List.getElem?_eq_some_iff.mp hy).1
        rwa [F.encs_len] at this
      rw [F.encs_get hi] at hy
      cases hy
      refine ⟨_, F.enc (x * p.c[i]), rfl, F.ev_mul (a := x) (b := p.c[i]) (ev_var rfl) (by rw [evs, ev_var (d := F.enc x) rfl, bnd_ret, evs, ev_var (d := F.enc p.c[i]) rfl, bnd_ret, evs, bnd_ret, bnd_ret]), ?_⟩
      rw [F.encs_get (by rw [← hxc, List.length_map]; exact hi)]
      simp [← hxc]
end
end RG
set_option Elab.async false
set_option linter.all false
set_option maxRecDepth 100000
/-! Products of polynomials. -/
namespace RG
open PySem Lean.Grind
section
variable {P : Prog} {α : Type} [Field α] [DecidableEq α]
theorem co_set {zs : List α} {m : Nat} {v : α} (hm : m < zs.length) (j : Nat) : co (zs.set m v) j = if j = m then v else co zs j := by
  unfold co
  rw [List.getD_eq_getElem?_getD, List.getD_eq_getElem?_getD]
  by_cases h : j = m
  · subst h
    rw [if_pos rfl, List.getElem?_set_self hm]; rfl
  · rw [if_neg h, List.getElem?_set_ne (Ne.symm h)]
theorem co_get {zs : List α} {i : Nat} (h : i < zs.length) : zs[i] = co zs i := by
  unfold co
  rw [List.getD_eq_getElem?_getD, List.getElem?_eq_getElem h]; rfl
theorem mulL_snoc : ∀ (a b : List α) (x : α) (j : Nat), co (mulL (a ++ [x]) b) j = co (mulL a b) j + if a.length ≤ j then x * co b (j - a.length) else 0
  | [], b, x, j => by
    show co (mulL [x] b) j = co [] j + _
    rw [co_mulL_cons, co_nil, List.length_nil, if_pos (Nat.zero_le _), Nat.sub_zero]
    have : co (0 :: mulL [] b) j = 0 := by
      cases j with
      | zero => rw [co_zero]
      | succ j => rw [co_succ]; exact co_nil j
    rw [this]; grind
  | y :: a, b, x, 0 => by
    show co (mulL (y :: (a ++ [x])) b) 0 = _
    rw [co_mulL_cons, co_mulL_cons, co_zero, co_zero, List.length_cons, if_neg (by omega)]; grind
  | y :: a, b, x, j + 1 => by
    show co (mulL (y :: (a ++ [x])) b) (j + 1) = _
    rw [co_mulL_cons, co_mulL_cons, co_succ, co_succ, mulL_snoc a b x j, List.length_cons, Nat.add_sub_add_right]
    by_cases h : a.length ≤ j
    · rw [if_pos h, if_pos (by omega)]; grind
    · rw [if_neg h, if_neg (by omega)]; grind
theorem add_nat {cl : Nat → List D → Store → R D} {ρ : Env} {S : Store} {a b : E} {i j : Nat} (ha : ev P cl a ρ S = ret (.int (i : Int)) S) (hb : ev P cl b ρ S = ret (.int (j : Int)) S) : ev P cl (.bin .add a b) ρ S = ret (.int ((i + j : Nat) : Int)) S := by
  rw [ev, ha, bnd_ret, hb, bnd_ret]
  show (ret (D.int ((i : Int) + (j : Int))) S : R D) = _
  rw [Int.natCast_add]
theorem items_cell (S : Store) (xs : List D) : items (S ++ [.lst xs]) (.ref S.length) = some xs := by
  show (match (S ++ [Cell.lst xs])[S.length]? with | some (.lst xs) => some xs | _ => none) = _
  rw [cell_at]
theorem litems_cell (S : Store) (xs : List D) : litems (S ++ [.lst xs]) (.ref S.length) = some xs := by
  show (match (S ++ [Cell.lst xs])[S.length]? with | some (.lst xs) => some xs | _ => none) = _
  rw [cell_at]
def pmulInner : Ss := .cons (.sub (.var 3) (.bin .add (.var 4) (.var 6)) (.meth (.var 0) 1 (.cons (.idx (.var 3) (.bin .add (.var 4) (.var 6))) (.cons (.meth (.var 0) 4 (.cons (.var 5) (.cons (.var 7) .nil))) .nil)))) .nil
def pmulOuter : Ss := .cons (.ife (.meth (.var 0) 0 (.cons (.var 5) .nil)) (.cons .cont .nil) .nil) (.cons (.for_ (.tup [(.name 6), (.name 7)]) (.enum (.var 2)) pmulInner) .nil)
theorem pmul_in1 (F : Fc P α) (d : Nat) {A B : D} {S : Store} {zs : List α} {i k : Nat} {x y : α} (hi : i + k < zs.length) :
    execs P (callF P (d + F.k0)) pmulInner [some F.fo, some A, some B, some (.ref S.length), some (.int (i : Int)), some (F.enc x), some (.int (k : Int)), some (F.enc y)] (S ++ [.lst (F.encs zs)]) = some (.nx [some F.fo, some A, some B, some (.ref S.length), some (.int (i : Int)), some (F.enc x), some (.int (k : Int)), some (F.enc y)] (S ++ [.lst (F.encs (zs.set (i + k) (co zs (i + k) + x * y)))])) := by
  generalize hρ : ([some F.fo, some A, some B, some (.ref S.length), some (.int (i : Int)), some (F.enc x), some (.int (k : Int)), some (F.enc y)] : Env) = ρ
  have h0 : ρ[0]? = some (some F.fo) := by rw [← hρ]; rfl
  have h3 : ev P (callF P (d + F.k0)) (.var 3) ρ (S ++ [.lst (F.encs zs)]) = ret (.ref S.length) (S ++ [.lst (F.encs zs)]) := ev_var (by rw [← hρ]; rfl)
  have h46 : ev P (callF P (d + F.k0)) (.bin .add (.var 4) (.var 6)) ρ (S ++ [.lst (F.encs zs)]) = ret (.int ((i + k : Nat) : Int)) (S ++ [.lst (F.encs zs)]) := add_nat (ev_var (by rw [← hρ]; rfl)) (ev_var (by rw [← hρ]; rfl))
  have h5 : ρ[5]? = some (some (F.enc x)) := by rw [← hρ]; rfl
  have h7 : ρ[7]? = some (some (F.enc y)) := by rw [← hρ]; rfl
  have hm := F.ev_mul (d := d) (o := .var 0) (es := .cons (.var 5) (.cons (.var 7) .nil)) (a := x) (b := y) (ρ := ρ) (S := S ++ [.lst (F.encs zs)]) (ev_var h0) (by rw [evs, ev_var h5, bnd_ret, evs, ev_var h7, bnd_ret, evs, bnd_ret, bnd_ret])
  have he := F.ev_add (d := d) (o := .var 0) (es := .cons (.idx (.var 3) (.bin .add (.var 4) (.var 6))) (.cons (.meth (.var 0) 4 (.cons (.var 5) (.cons (.var 7) .nil))) .nil)) (a := zs[i + k]) (b := x * y) (ρ := ρ) (S := S ++ [.lst (F.encs zs)]) (ev_var h0) (by
    rw [evs, idx_run h3 h46 (items_cell S _) (F.encs_get hi), bnd_ret, evs, hm, bnd_ret, evs, bnd_ret, bnd_ret])
  unfold pmulInner
  rw [execs_cons, sub_run he h3 h46 (by rw [F.encs_len]; exact hi) (F.lt0 _ _), sq_nx, execs, F.encs_set, co_get hi]
theorem pmul_in (F : Fc P α) (d : Nat) {A : D} {S : Store} {zs ys : List α} {i : Nat} {x : α} (hi : i + ys.length ≤ zs.length) (v6 v7 : Option D) : ∃ w6 w7 zs', zs'.length = zs.length ∧ (∀ j, co zs' j = co zs j + if i ≤ j then x * co ys (j - i) else 0) ∧
    exec P (callF P (d + F.k0)) (.for_ (.tup [(.name 6), (.name 7)]) (.enum (.var 2)) pmulInner) [some F.fo, some A, some (F.pl ys), some (.ref S.length), some (.int (i : Int)), some (F.enc x), v6, v7] (S ++ [.lst (F.encs zs)]) = some (.nx [some F.fo, some A, some (F.pl ys), some (.ref S.length), some (.int (i : Int)), some (F.enc x), w6, w7] (S ++ [.lst (F.encs zs')])) := by
  rw [for_run (enum_run (xs := F.encs ys) (ev_var rfl))]
  obtain ⟨ρ', S', e, w6, w7, zs', rfl, rfl, hl, hc⟩ := forGo_inv (t := .tup [(.name 6), (.name 7)]) (g := none) (body := fun ρ S => execs P (callF P (d + F.k0)) pmulInner ρ S) (xs := (F.encs ys).zipIdx.map fun p => .tup [.int p.2, p.1])
    (fun k ρ St => ∃ w6 w7 zs', ρ = [some F.fo, some A, some (F.pl ys), some (.ref S.length), some (.int (i : Int)), some (F.enc x), w6, w7] ∧ St = S ++ [.lst (F.encs zs')] ∧ zs'.length = zs.length ∧ ∀ j, co zs' j = co zs j + if i ≤ j ∧ j < i + k then x * co ys (j - i) else 0)
    (ρ := [some F.fo, some A, some (F.pl ys), some (.ref S.length), some (.int (i : Int)), some (F.enc x), v6, v7]) (S := S ++ [.lst (F.encs zs)]) ⟨v6, v7, zs, rfl, rfl, rfl, fun j => by rw [if_neg (by omega)]; grind⟩ (by
      rintro k z ρ St hx ⟨w6, w7, zs', rfl, rfl, hl, hc⟩
      obtain ⟨y, hy, rfl⟩ := enum_get' hx
      have hk : k < ys.length := by
        have := (List.getElem?_eq_some_iff.mp hy).1
        rwa [F.encs_len] at this
      rw [F.encs_get hk] at hy
      cases hy
      have hik : i + k < zs'.length := by omega
      refine ⟨[some F.fo, some A, some (F.pl ys), some (.ref S.length), some (.int (i : Int)), some (F.enc x), some (.int (k : Int)), some (F.enc ys[k])], _, _, rfl, .inl (pmul_in1 F d hik), rfl, _, _, _, rfl, rfl, by rw [List.length_set]; exact hl, fun j => ?_⟩
      rw [co_set hik]
      by_cases hj : j = i + k
      · subst hj
        rw [if_pos rfl, hc, if_neg (by omega), if_pos (by omega), Nat.add_sub_cancel_left, co_get hk]; grind
      · rw [if_neg hj, hc]
        by_cases h2 : i ≤ j ∧ j < i + k
        · rw [if_pos h2, if_pos (by omega)]
        · rw [if_neg h2, if_neg (by omega)])
  refine ⟨w6, w7, zs', hl, fun j => ?_, e⟩
  have hll : ((F.encs ys).zipIdx.map fun p => D.tup [.int p.2, p.1]).length = ys.length := by simp [F.encs_len]
  rw [hll] at hc
  rw [hc]
  by_cases h1 : i ≤ j
  · rw [if_pos h1]
    by_cases h2 : j < i + ys.length
    · rw [if_pos ⟨h1, h2⟩]
    · rw [if_neg (by omega), co_out (l := ys) (by omega)]; grind
  · rw [if_neg h1, if_neg (by omega)]
theorem pmul_out (F : Fc P α) (d : Nat) {S : Store} {xs ys : List α} {N : Nat} (hy : 0 < ys.length) (hN : xs.length + ys.length ≤ N + 1) (v4 v5 v6 v7 : Option D) : ∃ ρ' zs, zs.length = N ∧ (∀ j, co zs j = co (mulL xs ys) j) ∧
    exec P (callF P (d + F.k0)) (.for_ (.tup [(.name 4), (.name 5)]) (.enum (.var 1)) pmulOuter) [some F.fo, some (F.pl xs), some (F.pl ys), some (.ref S.length), v4, v5, v6, v7] (S ++ [.lst (F.encs (List.replicate N 0))]) = some (.nx ρ' (S ++ [.lst (F.encs zs)])) ∧ ∃ w4 w5 w6 w7, ρ' = [some F.fo, some (F.pl xs), some (F.pl ys), some (.ref S.length), w4, w5, w6, w7] := by
  rw [for_run (enum_run (xs := F.encs xs) (ev_var rfl))]
  obtain ⟨ρ', S', e, w4, w5, w6, w7, zs', rfl, rfl, hl, hc⟩ := forGo_inv (t := .tup [(.name 4), (.name 5)]) (g := none) (body := fun ρ S => execs P (callF P (d + F.k0)) pmulOuter ρ S) (xs := (F.encs xs).zipIdx.map fun p => .tup [.int p.2, p.1])
    (fun i ρ St => ∃ w4 w5 w6 w7 zs', ρ = [some F.fo, some (F.pl xs), some (F.pl ys), some (.ref S.length), w4, w5, w6, w7] ∧ St = S ++ [.lst (F.encs zs')] ∧ zs'.length = N ∧ ∀ j, co zs' j = co (mulL (xs.take i) ys) j)
    (ρ := [some F.fo, some (F.pl xs), some (F.pl ys), some (.ref S.length), v4, v5, v6, v7]) (S := S ++ [.lst (F.encs (List.replicate N 0))]) ⟨v4, v5, v6, v7, _, rfl, rfl, List.length_replicate, fun j => by
      show _ = co [] j
      rw [co_nil]
      unfold co
      rw [List.getD_eq_getElem?_getD, List.getElem?_replicate]
      split <;> rfl⟩ (by
      rintro i z ρ St hx ⟨w4, w5, w6, w7, zs', rfl, rfl, hl, hc⟩
      obtain ⟨y, hy', rfl⟩ := enum_get' hx
      have hi : i < xs.length := by
        have := (List.getElem?_eq_some_iff.mp hy').1
        rwa [F.encs_len] at this
      rw [F.encs_get hi] at hy'
      cases hy'
      have htk : xs.take (i + 1) = xs.take i ++ [xs[i]] := by
        rw [List.take_add_one, List.getElem?_eq_getElem hi]; rfl
      have htl : (xs.take i).length = i := by rw [List.length_take]; omega
      have hz0 : ev P (callF P (d + F.k0)) (.meth (.var 0) 0 (.cons (.var 5) .nil)) [some F.fo, some (F.pl xs), some (F.pl ys), some (.ref S.length), some (.int (i : Int)), some (F.enc xs[i]), w6, w7] (S ++ [.lst (F.encs zs')]) = ret (.bl (decide (xs[i] = 0))) (S ++ [.lst (F.encs zs')]) := F.ev_is_zero (ev_var rfl) (by rw [evs, ev_var (d := F.enc xs[i]) rfl, bnd_ret, evs, bnd_ret])
      refine ⟨[some F.fo, some (F.pl xs), some (F.pl ys), some (.ref S.length), some (.int (i : Int)), some (F.enc xs[i]), w6, w7], ?_⟩
      by_cases h0 : xs[i] = 0
      · refine ⟨_, _, rfl, .inr (?_ : _ = some (Out.ct [some F.fo, some (F.pl xs), some (F.pl ys), some (.ref S.length), some (.int (i : Int)), some (F.enc xs[i]), w6, w7] (S ++ [.lst (F.encs zs')]))), rfl, _, _, _, _, _, rfl, rfl, hl, fun j => ?_⟩
        · unfold pmulOuter
          rw [execs_cons, exec, hz0, stp_ret, decide_eq_true h0]
          show sq (execs P _ (.cons .cont .nil) _ _) _ = _
          rw [execs, exec]
          rfl
        · rw [htk, mulL_snoc, hc, h0]
          split <;> grind
      · obtain ⟨u6, u7, zs2, hl2, hc2, e2⟩ := pmul_in F d (A := F.pl xs) (S := S) (zs := zs') (ys := ys) (i := i) (x := xs[i]) (by omega) w6 w7
        refine ⟨_, _, rfl, .inl (?_ : _ = some (Out.nx [some F.fo, some (F.pl xs), some (F.pl ys), some (.ref S.length), some (.int (i : Int)), some (F.enc xs[i]), u6, u7] (S ++ [.lst (F.encs zs2)]))), rfl, _, _, _, _, _, rfl, rfl, hl2.trans hl, fun j => ?_⟩
        · unfold pmulOuter
          rw [execs_cons, exec, hz0, stp_ret, decide_eq_false h0]
          show sq (execs P _ .nil _ _) _ = _
          rw [execs, sq_nx, execs_cons, e2, sq_nx, execs]
        · rw [htk, mulL_snoc, hc2, hc, htl])
  have hll : ((F.encs xs).zipIdx.map fun p => D.tup [.int p.2, p.1]).length = xs.length := by simp [F.encs_len]
  rw [hll, List.take_length] at hc
  exact ⟨_, zs', hl, hc, e, w4, w5, w6, w7, rfl⟩
theorem len_run {cl : Nat → List D → Store → R D} {ρ : Env} {S : Store} {e : E} {xs : List D} (he : ev P cl e ρ S = ret (.tup xs) S) : ev P cl (.bi .len (.cons e .nil)) ρ S = ret (.int (xs.length : Int)) S := by
  rw [ev, evs, he, bnd_ret, evs, bnd_ret, bnd_ret]
  rfl
theorem eq_nat {cl : Nat → List D → Store → R D} {ρ : Env} {S : Store} {a : E} {i : Nat} {z : Int} (j : Nat) (hz : z = (j : Int)) (ha : ev P cl a ρ S = ret (.int (i : Int)) S) : ev P cl (.bin .eq a (.lit (.int z))) ρ S = ret (.bl (decide (i = j))) S := by
  subst hz
  rw [ev, ha, bnd_ret, ev, bnd_ret]
  show (ret (D.bl ((i : Int) == (j : Int))) S : R D) = _
  congr 2
  by_cases h : i = j
  · subst h; simp
  · rw [decide_eq_false h, beq_eq_false_iff_ne]
    omega
theorem or_run {cl : Nat → List D → Store → R D} {ρ : Env} {S : Store} {a b : E} {x y : Bool} (ha : ev P cl a ρ S = ret (.bl x) S) (hb : ev P cl b ρ S = ret (.bl y) S) : ev P cl (.or a b) ρ S = ret (.bl (x || y)) S := by
  rw [ev, ha, bnd_ret]
  cases x with
  | false => simpa using hb
  | true => rfl
theorem and_run {cl : Nat → List D → Store → R D} {ρ : Env} {S : Store} {a b : E} {x y : Bool} (ha : ev P cl a ρ S = ret (.bl x) S) (hb : ev P cl b ρ S = ret (.bl y) S) : ev P cl (.and a b) ρ S = ret (.bl (x && y)) S := by
  rw [ev, ha, bnd_ret]
  cases x with
  | true => simpa using hb
  | false => rfl
theorem ife_t {cl : Nat → List D → Store → R D} {ρ : Env} {S S' : Store} {c : E} {a b : Ss} (hc : ev P cl c ρ S = ret (.bl true) S') : exec P cl (.ife c a b) ρ S = execs P cl a ρ S' := by rw [exec, hc, stp_ret]
theorem ife_f {cl : Nat → List D → Store → R D} {ρ : Env} {S S' : Store} {c : E} {a b : Ss} (hc : ev P cl c ρ S = ret (.bl false) S') : exec P cl (.ife c a b) ρ S = execs P cl b ρ S' := by rw [exec, hc, stp_ret]
theorem execs_nil {cl : Nat → List D → Store → R D} {ρ : Env} {S : Store} : execs P cl .nil ρ S = some (.nx ρ S) := by rw [execs]
theorem sq_rt (d : D) (S : Store) (k : Env → Store → Option Out) : sq (some (.rt d S)) k = some (.rt d S) := rfl
theorem rep_run {cl : Nat → List D → Store → R D} {ρ : Env} {S : Store} {a b : E} {x : D} {n : Nat} (ha : ev P cl a ρ S = ret x S) (hb : ev P cl b ρ S = ret (.int (n : Int)) S) (hn : n ≤ 100000) : evL P cl (.rep (.frz (.disp (.cons a .nil))) b) ρ S = ret (List.replicate n x) S := by
  rw [evL, ev, evL, evs, ha, bnd_ret, evs, bnd_ret, bnd_ret, bnd_ret, hb, bnd_ret]
  simp only [litems, Option.bind_some, Int.toNat_natCast, List.length_singleton, Nat.one_mul]
  rw [if_pos ⟨hn, by omega, by omega⟩]
  have : ∀ n : Nat, (List.replicate n [x]).flatten = List.replicate n x := fun n => by
    induction n with
    | zero => rfl
    | succ n ih => rw [List.replicate_succ, List.replicate_succ, List.flatten_cons, ih]; rfl
  rw [this]
theorem encs_rep (F : Fc P α) (n : Nat) : List.replicate n (F.enc 0) = F.encs (List.replicate n 0) := by
  unfold Fc.encs
  rw [List.map_replicate]
theorem len_one (p : Poly α) (h : p.len = 1) : p = Poly.C (co p.c 0) := Poly.ext fun i => by
  rw [Poly.co_C]
  split
  · rename_i e; rw [e]
  · exact Poly.co_ge (by omega)
theorem pmul_po (F : Fc P α) (h1 : P.fn 1 = some F1) (h8 : P.fn 8 = some F8) (h9 : P.fn 9 = some F9) (d : Nat) (p q : Poly α) (hz : p.len + q.len ≤ 100000) (S : Store) : callF P (d + F.k0 + 2) 9 [F.fo, F.po p, F.po q] S = ret (F.po (p * q)) S := by
  have hd : d + F.k0 + 2 = (d + 1 + F.k0) + 1 := by omega
  rw [hd, call_eq h9 rfl (by decide), B9]
  generalize hρ : ([F.fo, F.po p, F.po q].map some ++ List.replicate (8 - 3) none : Env) = ρ
  have v0 : ev P (callF P (d + 1 + F.k0)) (.var 0) ρ S = ret F.fo S := ev_var (by rw [← hρ]; rfl)
  have v1 : ev P (callF P (d + 1 + F.k0)) (.var 1) ρ S = ret (F.po p) S := ev_var (by rw [← hρ]; rfl)
  have v2 : ev P (callF P (d + 1 + F.k0)) (.var 2) ρ S = ret (F.po q) S := ev_var (by rw [← hρ]; rfl)
  have l1 : ev P (callF P (d + 1 + F.k0)) (.bi .len (.cons (.var 1) .nil)) ρ S = ret (.int (p.len : Int)) S := by
    have := len_run (xs := F.encs p.c) v1
    rwa [F.encs_len] at this
  have l2 : ev P (callF P (d + 1 + F.k0)) (.bi .len (.cons (.var 2) .nil)) ρ S = ret (.int (q.len : Int)) S := by
    have := len_run (xs := F.encs q.c) v2
    rwa [F.encs_len] at this
  have c0 := or_run (eq_nat (z := 0) 0 rfl l1) (eq_nat (z := 0) 0 rfl l2)
  have c1 := or_run (eq_nat (z := 1) 1 rfl l1) (eq_nat (z := 1) 1 rfl l2)
  rw [execs_cons]
  by_cases hz0 : p.len = 0 ∨ q.len = 0
  · have : (decide (p.len = 0) || decide (q.len = 0)) = true := by simpa using hz0
    rw [this] at c0
    rw [ife_t c0, ret_run (S' := S) (v := .tup []) (by rw [ev, evs, bnd_ret]), sq_rt, fin_rt (by rw [D.lt, D.lts]), List.take_length]
    have : p * q = 0 := by
      rcases hz0 with h | h
      · rw [Poly.len_zero h]; grind
      · rw [Poly.len_zero h]; grind
    rw [this, F.po_zero]
  · have : (decide (p.len = 0) || decide (q.len = 0)) = false := by simpa using hz0
    rw [this] at c0
    rw [ife_f c0, execs_nil, sq_nx, execs_cons]
    by_cases hz1 : p.len = 1 ∨ q.len = 1
    · have : (decide (p.len = 1) || decide (q.len = 1)) = true := by simpa using hz1
      rw [this] at c1
      have hidx : ∀ (r : Poly α) (e : E), r.len ≠ 0 → ev P (callF P (d + 1 + F.k0)) e ρ S = ret (F.po r) S → ev P (callF P (d + 1 + F.k0)) (.idx e (.lit (.int 0))) ρ S = ret (F.enc (co r.c 0)) S := fun r e hr he => by
        have h0 : 0 < r.c.length := Nat.pos_of_ne_zero hr
        have := idx_run (j := 0) he (b := .lit (.int 0)) (by rw [ev]; rfl) (xs := F.encs r.c) rfl (F.encs_get h0)
        rwa [co_get h0] at this
      have hd2 : d + 1 + F.k0 = d + F.k0 + 1 := by omega
      have hr : ev P (callF P (d + 1 + F.k0)) (.ite (.bin .eq (.bi .len (.cons (.var 1) .nil)) (.lit (.int 1))) (.call 8 (.cons (.var 0) (.cons (.var 2) (.cons (.idx (.var 1) (.lit (.int 0))) .nil)))) (.call 8 (.cons (.var 0) (.cons (.var 1) (.cons (.idx (.var 2) (.lit (.int 0))) .nil))))) ρ S = ret (F.po (p * q)) S := by
        rw [ev]
        have e1 := eq_nat (z := 1) 1 rfl l1
        rw [e1, bnd_ret]
        by_cases h : p.len = 1
        · rw [decide_eq_true h]
          show ev P _ _ _ _ = _
          rw [call3 v0 v2 (hidx p _ (by omega) v1), hd2, pscale_po F h8 d q _ (by omega), ← len_one p h]
        · have hq1 : q.len = 1 := by omega
          rw [decide_eq_false h]
          show ev P _ _ _ _ = _
          rw [call3 v0 v1 (hidx q _ (by omega) v2), hd2, pscale_po F h8 d p _ (by omega), ← len_one q hq1]
          congr 2
          grind
      rw [ife_t c1, ret_run hr, sq_rt, fin_rt (F.po_lt _ _), List.take_length]
    · have : (decide (p.len = 1) || decide (q.len = 1)) = false := by simpa using hz1
      rw [this] at c1
      rw [ife_f c1, execs_nil, sq_nx, execs_cons]
      have hN : ev P (callF P (d + 1 + F.k0)) (.bin .sub (.bin .add (.bi .len (.cons (.var 1) .nil)) (.bi .len (.cons (.var 2) .nil))) (.lit (.int 1))) ρ S = ret (.int ((p.len + q.len - 1 : Nat) : Int)) S := by
        rw [ev, add_nat l1 l2, bnd_ret, ev, bnd_ret]
        show (ret (D.int (((p.len + q.len : Nat) : Int) - 1)) S : R D) = _
        congr 2
        omega
      rw [own_run (rep_run (F.ev_zero v0) hN (by omega)), sq_nx, execs_cons, encs_rep]
      obtain ⟨ρ', zs, hl, hc, e, w4, w5, w6, w7, rfl⟩ := pmul_out F (d + 1) (S := S) (xs := p.c) (ys := q.c) (N := p.len + q.len - 1) (Nat.pos_of_ne_zero fun z => hz0 (.inr z)) (by unfold Poly.len; omega) none none none none
      have e' : exec P (callF P (d + 1 + F.k0)) (.for_ (.tup [(.name 4), (.name 5)]) (.enum (.var 1)) pmulOuter) (ρ.set 3 (some (.ref S.length))) (S ++ [.lst (F.encs (List.replicate (p.len + q.len - 1) 0))]) = some (.nx [some F.fo, some (F.pl p.c), some (F.pl q.c), some (.ref S.length), w4, w5, w6, w7] (S ++ [.lst (F.encs zs)])) := by
        rw [← hρ]
        exact e
      show fin false S.length (sq (exec P _ (.for_ _ _ pmulOuter) _ _) _) = _
      rw [e', sq_nx, execs_cons]
      have ht := trim_run F h1 d zs (.ref S.length) (S ++ [.lst (F.encs zs)]) (items_cell _ _) (.inr (litems_cell _ _))
      have hd2 : d + 1 + F.k0 = d + F.k0 + 1 := by omega
      rw [hd2, exec, call2 (x := F.fo) (y := .ref S.length) (ev_var rfl) (ev_var rfl), ht, stp_ret]
      have : trim zs = (p * q).c := by
        rw [← (p * q).nm]
        exact trim_ext fun j => by rw [hc, Poly.co_mul]
      show fin false S.length (some (.rt (F.pl (trim zs)) _)) = _
      rw [fin_rt (F.pl_lt _ _), take_cell, this]
      rfl
end
end RG
set_option Elab.async false
set_option linter.all false
set_option maxRecDepth 100000
/-! Division of polynomials. -/
namespace RG
open PySem Lean.Grind
section
variable {P : Prog} {α : Type} [Field α] [DecidableEq α]
theorem mulL_set : ∀ (t q : List α) (k : Nat) (f : α), k < t.length → ∀ j, co (mulL (t.set k f) q) j = co (mulL t q) j + if k ≤ j then (f - co t k) * co q (j - k) else 0
  | [], q, k, f, h, j => by simp at h
  | x :: t, q, 0, f, h, j => by
    rw [List.set_cons_zero, co_mulL_cons, co_mulL_cons, co_zero, if_pos (Nat.zero_le _), Nat.sub_zero]; grind
  | x :: t, q, k + 1, f, h, j => by
    rw [List.set_cons_succ, co_mulL_cons, co_mulL_cons, co_succ]
    cases j with
    | zero => rw [co_zero, co_zero, if_neg (by omega)]; grind
    | succ j =>
      rw [co_succ, co_succ, mulL_set t q k f (by simpa using h) j, Nat.add_sub_add_right]
      by_cases hk : k ≤ j
      · rw [if_pos hk, if_pos (by omega)]; grind
      · rw [if_neg hk, if_neg (by omega)]; grind
theorem sub_runG {cl : Nat → List D → Store → R D} {ρ : Env} {St : Store} {xs : List D} {l i e : E} {v : D} {a j : Nat} (he : ev P cl e ρ St = ret v St) (hl : ev P cl l ρ St = ret (.ref a) St)
    (hi : ev P cl i ρ St = ret (.int (j : Int)) St) (ha : St[a]? = some (.lst xs)) (hj : j < xs.length) (hv : v.lt a = true) : exec P cl (.sub l i e) ρ St = some (.nx ρ (St.set a (.lst (xs.set j v)))) := by
  rw [exec, he, stp_ret, hl, stp_ret, hi, stp_ret]
  simp only [ha, hv, if_true]
  unfold ixN
  rw [if_pos (by omega), if_pos (by omega), Option.map_some]
  simp
/-- two lists of the def -/
def st2 (S : Store) (a b : List D) : Store := S ++ [.lst a, .lst b]
theorem st2_0 (S : Store) (a b : List D) : (st2 S a b)[S.length]? = some (.lst a) := by simp [st2]
theorem st2_1 (S : Store) (a b : List D) : (st2 S a b)[S.length + 1]? = some (.lst b) := by simp [st2]
theorem st2_s0 (S : Store) (a b c : List D) : (st2 S a b).set S.length (.lst c) = st2 S c b := by
  unfold st2
  rw [List.set_append_right _ _ (Nat.le_refl _), Nat.sub_self]; rfl
theorem st2_s1 (S : Store) (a b c : List D) : (st2 S a b).set (S.length + 1) (.lst c) = st2 S a c := by
  unfold st2
  rw [List.set_append_right _ _ (by omega), show S.length + 1 - S.length = 1 by omega]; rfl
theorem st2_i0 (S : Store) (a b : List D) : items (st2 S a b) (.ref S.length) = some a ∧ litems (st2 S a b) (.ref S.length) = some a := by
  constructor
  · show (match (st2 S a b)[S.length]? with | some (.lst xs) => some xs | _ => none) = _
    rw [st2_0]
  · show (match (st2 S a b)[S.length]? with | some (.lst xs) => some xs | _ => none) = _
    rw [st2_0]
theorem st2_i1 (S : Store) (a b : List D) : items (st2 S a b) (.ref (S.length + 1)) = some b ∧ litems (st2 S a b) (.ref (S.length + 1)) = some b := by
  constructor
  · show (match (st2 S a b)[S.length + 1]? with | some (.lst xs) => some xs | _ => none) = _
    rw [st2_1]
  · show (match (st2 S a b)[S.length + 1]? with | some (.lst xs) => some xs | _ => none) = _
    rw [st2_1]
theorem st2_take (S : Store) (a b : List D) : (st2 S a b).take S.length = S := by simp [st2]
theorem sub_nat {cl : Nat → List D → Store → R D} {ρ : Env} {S : Store} {a : E} {i : Nat} {z : Int} (j : Nat) (hz : z = (j : Int)) (hj : j ≤ i) (ha : ev P cl a ρ S = ret (.int (i : Int)) S) : ev P cl (.bin .sub a (.lit (.int z))) ρ S = ret (.int ((i - j : Nat) : Int)) S := by
  subst hz
  rw [ev, ha, bnd_ret, ev, bnd_ret]
  show (ret (D.int ((i : Int) - (j : Int))) S : R D) = _
  congr 2
  omega
theorem last_po (F : Fc P α) (h3 : P.fn 3 = some F3) (d : Nat) (p : Poly α) (hp : 0 < p.len) (S : Store) : callF P (d + 1) 3 [F.po p] S = ret (F.enc p.lc) S := by
  rw [call_eq h3 rfl (by decide), B3, execs_cons]
  have v0 : ev P (callF P d) (.var 0) ([F.po p].map some ++ List.replicate (1 - 1) none) S = ret (F.po p) S := ev_var rfl
  have l0 : ev P (callF P d) (.bi .len (.cons (.var 0) .nil)) ([F.po p].map some ++ List.replicate (1 - 1) none) S = ret (.int (p.len : Int)) S := by
    have := len_run (xs := F.encs p.c) v0
    rwa [F.encs_len] at this
  have c := eq_nat (z := 0) 0 rfl l0
  rw [_root_.decide_eq_false (by omega)] at c
  rw [ife_f c, execs_nil, sq_nx]
  have hi : p.len - 1 < p.c.length := by unfold Poly.len at hp ⊢; omega
  have := idx_run v0 (sub_nat (z := 1) 1 rfl (by omega) l0) (xs := F.encs p.c) rfl (F.encs_get hi)
  rw [co_get hi] at this
  rw [ret_run this]
  show fin false S.length (some (.rt (F.enc (co p.c (p.len - 1))) S)) = _
  rw [fin_rt (F.lt0 _ _), List.take_length]
  rfl
def pdivIn : Ss := .cons (.sub (.var 4) (.bin .add (.var 8) (.var 10)) (.meth (.var 0) 7 (.cons (.idx (.var 4) (.bin .add (.var 8) (.var 10))) (.cons (.meth (.var 0) 4 (.cons (.var 9) (.cons (.idx (.var 2) (.var 10)) .nil))) .nil)))) .nil
theorem rngU_run {cl : Nat → List D → Store → R D} {ρ : Env} {S : Store} {b : E} {n : Nat} (hb : ev P cl b ρ S = ret (.int (n : Int)) S) (hn : n ≤ 1000000) : evIt P cl (.rng (.lit (.int 0)) b 1) ρ S = ret ((List.range n).map fun (k : Nat) => D.int (k : Int), none) S := by
  rw [evIt, ev, bnd_ret, hb, bnd_ret]
  have h : rngOk 0 (n : Int) = true := decide_eq_true ⟨by omega, by omega, by omega, by omega⟩
  show (if rngOk 0 (n : Int) then ret (rng 0 n 1, none) S else none) = _
  rw [h, if_pos rfl]
  unfold rng
  rw [if_pos rfl]
  congr 2
  rw [Int.sub_zero, Int.toNat_natCast]
  congr 1
  funext k
  rw [Int.zero_add]
theorem rngD_run {cl : Nat → List D → Store → R D} {ρ : Env} {S : Store} {a : E} {n : Nat} (ha : ev P cl a ρ S = ret (.int ((n : Int) - 1)) S) (hn : n ≤ 1000000) : evIt P cl (.rng a (.neg (.lit (.int 1))) (-1)) ρ S = ret ((List.range n).map fun (k : Nat) => D.int ((n : Int) - 1 - k), none) S := by
  rw [evIt, ha, bnd_ret, ev, ev, bnd_ret, bnd_ret]
  have h : rngOk ((n : Int) - 1) (-1) = true := decide_eq_true ⟨by omega, by omega, by omega, by omega⟩
  show (if rngOk ((n : Int) - 1) (-1) then ret (rng ((n : Int) - 1) (-1) (-1), none) S else none) = _
  rw [h, if_pos rfl]
  unfold rng
  rw [if_neg (by decide), if_pos rfl]
  congr 2
  have : ((n : Int) - 1 - -1).toNat = n := by omega
  rw [this]
theorem range_get {n i : Nat} {f : Nat → D} {x : D} (h : ((List.range n).map f)[i]? = some x) : i < n ∧ x = f i := by
  rw [List.getElem?_map] at h
  by_cases hi : i < n
  · rw [List.getElem?_range hi] at h
    exact ⟨hi, by simpa using h.symm⟩
  · rw [List.getElem?_eq_none (by rw [List.length_range]; omega)] at h
    cases h
/-- one row of the division: K the power, f the factor -/
theorem pdiv_in1 (F : Fc P α) (d : Nat) {ρ : Env} {S : Store} {rs ts qs : List α} {K m : Nat} {f : α} (h0 : ρ[0]? = some (some F.fo)) (h2 : ρ[2]? = some (some (F.pl qs))) (h4 : ρ[4]? = some (some (.ref S.length))) (h8 : ρ[8]? = some (some (.int (K : Int)))) (h9 : ρ[9]? = some (some (F.enc f))) (h10 : ρ[10]? = some (some (.int (m : Int))))
    (hm : m < qs.length) (hr : K + m < rs.length) :
    execs P (callF P (d + F.k0)) pdivIn ρ (st2 S (F.encs rs) (F.encs ts)) = some (.nx ρ (st2 S (F.encs (rs.set (K + m) (co rs (K + m) - f * co qs m))) (F.encs ts))) := by
  have v4 : ev P (callF P (d + F.k0)) (.var 4) ρ (st2 S (F.encs rs) (F.encs ts)) = ret (.ref S.length) (st2 S (F.encs rs) (F.encs ts)) := ev_var h4
  have v8 := add_nat (P := P) (cl := callF P (d + F.k0)) (ρ := ρ) (S := st2 S (F.encs rs) (F.encs ts)) (ev_var h8) (ev_var h10)
  have hq := idx_run (P := P) (cl := callF P (d + F.k0)) (ρ := ρ) (S := st2 S (F.encs rs) (F.encs ts)) (ev_var h2) (ev_var h10) (xs := F.encs qs) rfl (F.encs_get hm)
  have hmu := F.ev_mul (d := d) (o := .var 0) (es := .cons (.var 9) (.cons (.idx (.var 2) (.var 10)) .nil)) (a := f) (b := qs[m]) (ρ := ρ) (S := st2 S (F.encs rs) (F.encs ts)) (ev_var h0) (by rw [evs, ev_var h9, bnd_ret, evs, hq, bnd_ret, evs, bnd_ret, bnd_ret])
  have he := F.ev_sub (d := d) (o := .var 0) (es := .cons (.idx (.var 4) (.bin .add (.var 8) (.var 10))) (.cons (.meth (.var 0) 4 (.cons (.var 9) (.cons (.idx (.var 2) (.var 10)) .nil))) .nil)) (a := rs[K + m]) (b := f * qs[m]) (ρ := ρ) (S := st2 S (F.encs rs) (F.encs ts)) (ev_var h0) (by
    rw [evs, idx_run v4 v8 (st2_i0 S _ _).1 (F.encs_get hr), bnd_ret, evs, hmu, bnd_ret, evs, bnd_ret, bnd_ret])
  unfold pdivIn
  rw [execs_cons, sub_runG he v4 v8 (st2_0 S _ _) (by rw [F.encs_len]; exact hr) (F.lt0 _ _), sq_nx, execs, F.encs_set, st2_s0, co_get hr, co_get hm]
theorem pdiv_in (F : Fc P α) (d : Nat) {S : Store} {rs ts qs : List α} {K : Nat} {f : α} {v1 v3 v5 v6 v7 v10 : Option D} (hq : 0 < qs.length) (hqz : qs.length ≤ 100000) (hr : K + qs.length ≤ rs.length) : ∃ w10 rs', rs'.length = rs.length ∧ (∀ j, co rs' j = co rs j - if K ≤ j ∧ j < K + (qs.length - 1) then f * co qs (j - K) else 0) ∧
    exec P (callF P (d + F.k0)) (.for_ (.name 10) (.rng (.lit (.int 0)) (.bin .sub (.bi .len (.cons (.var 2) .nil)) (.lit (.int 1))) 1) pdivIn) [some F.fo, v1, some (F.pl qs), v3, some (.ref S.length), v5, v6, v7, some (.int (K : Int)), some (F.enc f), v10] (st2 S (F.encs rs) (F.encs ts)) = some (.nx [some F.fo, v1, some (F.pl qs), v3, some (.ref S.length), v5, v6, v7, some (.int (K : Int)), some (F.enc f), w10] (st2 S (F.encs rs') (F.encs ts))) := by
  have l2 : ev P (callF P (d + F.k0)) (.bi .len (.cons (.var 2) .nil)) [some F.fo, v1, some (F.pl qs), v3, some (.ref S.length), v5, v6, v7, some (.int (K : Int)), some (F.enc f), v10] (st2 S (F.encs rs) (F.encs ts)) = ret (.int (qs.length : Int)) (st2 S (F.encs rs) (F.encs ts)) := by
    have := len_run (P := P) (cl := callF P (d + F.k0)) (ρ := [some F.fo, v1, some (F.pl qs), v3, some (.ref S.length), v5, v6, v7, some (.int (K : Int)), some (F.enc f), v10]) (S := st2 S (F.encs rs) (F.encs ts)) (e := .var 2) (xs := F.encs qs) (ev_var rfl)
    rwa [F.encs_len] at this
  rw [for_run (rngU_run (sub_nat (z := 1) 1 rfl (by omega) l2) (by omega))]
  obtain ⟨ρ', S', e, w10, rs', rfl, rfl, hl, hc⟩ := forGo_inv (t := .name 10) (g := none) (body := fun ρ S => execs P (callF P (d + F.k0)) pdivIn ρ S) (xs := (List.range (qs.length - 1)).map fun (k : Nat) => D.int (k : Int))
    (fun m ρ St => ∃ w10 rs', ρ = [some F.fo, v1, some (F.pl qs), v3, some (.ref S.length), v5, v6, v7, some (.int (K : Int)), some (F.enc f), w10] ∧ St = st2 S (F.encs rs') (F.encs ts) ∧ rs'.length = rs.length ∧ ∀ j, co rs' j = co rs j - if K ≤ j ∧ j < K + m then f * co qs (j - K) else 0)
    (ρ := [some F.fo, v1, some (F.pl qs), v3, some (.ref S.length), v5, v6, v7, some (.int (K : Int)), some (F.enc f), v10]) (S := st2 S (F.encs rs) (F.encs ts)) ⟨v10, rs, rfl, rfl, rfl, fun j => by rw [if_neg (by omega)]; grind⟩ (by
      rintro m z ρ St hx ⟨w10, rs', rfl, rfl, hl, hc⟩
      obtain ⟨hm, rfl⟩ := range_get hx
      have hmq : m < qs.length := by omega
      have hKm : K + m < rs'.length := by omega
      refine ⟨[some F.fo, v1, some (F.pl qs), v3, some (.ref S.length), v5, v6, v7, some (.int (K : Int)), some (F.enc f), some (.int (m : Int))], _, _, rfl, .inl (pdiv_in1 F d rfl rfl rfl rfl rfl rfl hmq hKm), rfl, _, _, rfl, rfl, by rw [List.length_set]; exact hl, fun j => ?_⟩
      rw [co_set hKm]
      by_cases hj : j = K + m
      · subst hj
        rw [if_pos rfl, hc, if_neg (by omega), if_pos (by omega), Nat.add_sub_cancel_left]; grind
      · rw [if_neg hj, hc]
        by_cases h2 : K ≤ j ∧ j < K + m
        · rw [if_pos h2, if_pos (by omega)]
        · rw [if_neg h2, if_neg (by omega)])
  refine ⟨w10, rs', hl, fun j => ?_, e⟩
  have hll : ((List.range (qs.length - 1)).map fun (k : Nat) => D.int (k : Int)).length = qs.length - 1 := by simp
  rw [hll] at hc
  exact hc j
theorem not_run {cl : Nat → List D → Store → R D} {ρ : Env} {S : Store} {a : E} {x : Bool} (ha : ev P cl a ρ S = ret (.bl x) S) : ev P cl (.not a) ρ S = ret (.bl (!x)) S := by
  rw [ev, ha, bnd_ret]
theorem set_run {cl : Nat → List D → Store → R D} {ρ : Env} {S S' : Store} {i : Nat} {e : E} {v : D} (he : ev P cl e ρ S = ret v S') : exec P cl (.set i e) ρ S = some (.nx (ρ.set i (some v)) S') := by
  rw [exec, he, stp_ret]
def pdivBody : Ss := .cons (.set 9 (.idx (.var 4) (.bin .sub (.bin .add (.var 8) (.bi .len (.cons (.var 2) .nil))) (.lit (.int 1)))))
  (.cons (.ife (.not (.var 5)) (.cons (.set 9 (.meth (.var 0) 4 (.cons (.var 9) (.cons (.var 6) .nil)))) .nil) .nil)
  (.cons (.sub (.var 7) (.var 8) (.var 9))
  (.cons (.ife (.meth (.var 0) 0 (.cons (.var 9) .nil)) (.cons .cont .nil) .nil)
  (.cons (.for_ (.name 10) (.rng (.lit (.int 0)) (.bin .sub (.bi .len (.cons (.var 2) .nil)) (.lit (.int 1))) 1) pdivIn) .nil))))
theorem pdiv_body (F : Fc P α) (d : Nat) {S : Store} {rs ts qs : List α} {K : Nat} {iv : α} {mon : Bool} {v1 v3 v9 v10 : Option D} (hmon : mon = true → iv = 1) (hq : 0 < qs.length) (hqz : qs.length ≤ 100000) (hr : K + qs.length ≤ rs.length) (ht : K < ts.length) :
    ∃ w9 w10 rs', rs'.length = rs.length ∧ (∀ j, co rs' j = co rs j - if K ≤ j ∧ j < K + (qs.length - 1) then (co rs (K + qs.length - 1) * iv) * co qs (j - K) else 0) ∧
      ∃ r, (r = .nx [some F.fo, v1, some (F.pl qs), v3, some (.ref S.length), some (.bl mon), some (F.enc iv), some (.ref (S.length + 1)), some (.int (K : Int)), w9, w10] (st2 S (F.encs rs') (F.encs (ts.set K (co rs (K + qs.length - 1) * iv)))) ∨
        r = .ct [some F.fo, v1, some (F.pl qs), v3, some (.ref S.length), some (.bl mon), some (F.enc iv), some (.ref (S.length + 1)), some (.int (K : Int)), w9, w10] (st2 S (F.encs rs') (F.encs (ts.set K (co rs (K + qs.length - 1) * iv))))) ∧
      execs P (callF P (d + F.k0)) pdivBody [some F.fo, v1, some (F.pl qs), v3, some (.ref S.length), some (.bl mon), some (F.enc iv), some (.ref (S.length + 1)), some (.int (K : Int)), v9, v10] (st2 S (F.encs rs) (F.encs ts)) = some r := by
  have l2 : ∀ (v9 : Option D) (St : Store), ev P (callF P (d + F.k0)) (.bi .len (.cons (.var 2) .nil)) [some F.fo, v1, some (F.pl qs), v3, some (.ref S.length), some (.bl mon), some (F.enc iv), some (.ref (S.length + 1)), some (.int (K : Int)), v9, v10] St = ret (.int (qs.length : Int)) St := fun v9 St => by
    have := len_run (P := P) (cl := callF P (d + F.k0)) (ρ := [some F.fo, v1, some (F.pl qs), v3, some (.ref S.length), some (.bl mon), some (F.enc iv), some (.ref (S.length + 1)), some (.int (K : Int)), v9, v10]) (S := St) (e := .var 2) (xs := F.encs qs) (ev_var rfl)
    rwa [F.encs_len] at this
  have hi : K + qs.length - 1 < rs.length := by omega
  have e1 := idx_run (P := P) (cl := callF P (d + F.k0)) (ρ := [some F.fo, v1, some (F.pl qs), v3, some (.ref S.length), some (.bl mon), some (F.enc iv), some (.ref (S.length + 1)), some (.int (K : Int)), v9, v10]) (S := st2 S (F.encs rs) (F.encs ts)) (a := .var 4) (b := .bin .sub (.bin .add (.var 8) (.bi .len (.cons (.var 2) .nil))) (.lit (.int 1))) (ev_var rfl) (sub_nat (z := 1) 1 rfl (by omega) (add_nat (a := .var 8) (ev_var rfl) (l2 v9 _))) (st2_i0 S _ _).1 (F.encs_get hi)
  rw [co_get hi] at e1
  -- the factor
  have s2 : exec P (callF P (d + F.k0)) (.ife (.not (.var 5)) (.cons (.set 9 (.meth (.var 0) 4 (.cons (.var 9) (.cons (.var 6) .nil)))) .nil) .nil) [some F.fo, v1, some (F.pl qs), v3, some (.ref S.length), some (.bl mon), some (F.enc iv), some (.ref (S.length + 1)), some (.int (K : Int)), some (F.enc (co rs (K + qs.length - 1))), v10] (st2 S (F.encs rs) (F.encs ts)) =
      some (.nx [some F.fo, v1, some (F.pl qs), v3, some (.ref S.length), some (.bl mon), some (F.enc iv), some (.ref (S.length + 1)), some (.int (K : Int)), some (F.enc (co rs (K + qs.length - 1) * iv)), v10] (st2 S (F.encs rs) (F.encs ts))) := by
    have c := not_run (P := P) (cl := callF P (d + F.k0)) (ρ := [some F.fo, v1, some (F.pl qs), v3, some (.ref S.length), some (.bl mon), some (F.enc iv), some (.ref (S.length + 1)), some (.int (K : Int)), some (F.enc (co rs (K + qs.length - 1))), v10]) (S := st2 S (F.encs rs) (F.encs ts)) (a := .var 5) (x := mon) (ev_var rfl)
    cases mon with
    | true =>
      rw [ife_f c, execs_nil, hmon rfl]
      have : co rs (K + qs.length - 1) * 1 = co rs (K + qs.length - 1) := by grind
      rw [this]
    | false =>
      rw [ife_t c, execs_cons, set_run (F.ev_mul (a := co rs (K + qs.length - 1)) (b := iv) (ev_var rfl) (by rw [evs, ev_var (d := F.enc (co rs (K + qs.length - 1))) rfl, bnd_ret, evs, ev_var (d := F.enc iv) rfl, bnd_ret, evs, bnd_ret, bnd_ret])), sq_nx, execs_nil]
      rfl
  generalize hf : co rs (K + qs.length - 1) * iv = f at s2 ⊢
  have s3 := sub_runG (P := P) (cl := callF P (d + F.k0)) (ρ := [some F.fo, v1, some (F.pl qs), v3, some (.ref S.length), some (.bl mon), some (F.enc iv), some (.ref (S.length + 1)), some (.int (K : Int)), some (F.enc f), v10]) (St := st2 S (F.encs rs) (F.encs ts)) (l := .var 7) (i := .var 8) (e := .var 9) (ev_var rfl) (ev_var rfl) (ev_var rfl) (st2_1 S _ _) (by rw [F.encs_len]; exact ht) (F.lt0 f _)
  rw [F.encs_set, st2_s1] at s3
  have c4 : ev P (callF P (d + F.k0)) (.meth (.var 0) 0 (.cons (.var 9) .nil)) [some F.fo, v1, some (F.pl qs), v3, some (.ref S.length), some (.bl mon), some (F.enc iv), some (.ref (S.length + 1)), some (.int (K : Int)), some (F.enc f), v10] (st2 S (F.encs rs) (F.encs (ts.set K f))) = ret (.bl (decide (f = 0))) (st2 S (F.encs rs) (F.encs (ts.set K f))) := F.ev_is_zero (ev_var rfl) (by rw [evs, ev_var (d := F.enc f) rfl, bnd_ret, evs, bnd_ret])
  have start : execs P (callF P (d + F.k0)) pdivBody [some F.fo, v1, some (F.pl qs), v3, some (.ref S.length), some (.bl mon), some (F.enc iv), some (.ref (S.length + 1)), some (.int (K : Int)), v9, v10] (st2 S (F.encs rs) (F.encs ts)) =
      execs P (callF P (d + F.k0)) (.cons (.ife (.meth (.var 0) 0 (.cons (.var 9) .nil)) (.cons .cont .nil) .nil) (.cons (.for_ (.name 10) (.rng (.lit (.int 0)) (.bin .sub (.bi .len (.cons (.var 2) .nil)) (.lit (.int 1))) 1) pdivIn) .nil)) [some F.fo, v1, some (F.pl qs), v3, some (.ref S.length), some (.bl mon), some (F.enc iv), some (.ref (S.length + 1)), some (.int (K : Int)), some (F.enc f), v10] (st2 S (F.encs rs) (F.encs (ts.set K f))) := by
    unfold pdivBody
    rw [execs_cons, set_run e1, sq_nx, execs_cons]
    have s2' : exec P (callF P (d + F.k0)) (.ife (.not (.var 5)) (.cons (.set 9 (.meth (.var 0) 4 (.cons (.var 9) (.cons (.var 6) .nil)))) .nil) .nil) ([some F.fo, v1, some (F.pl qs), v3, some (.ref S.length), some (.bl mon), some (F.enc iv), some (.ref (S.length + 1)), some (.int (K : Int)), v9, v10].set 9 (some (F.enc (co rs (K + qs.length - 1))))) (st2 S (F.encs rs) (F.encs ts)) = _ := s2
    rw [s2', sq_nx, execs_cons, s3, sq_nx]
  rw [start, execs_cons]
  by_cases h0 : f = 0
  · refine ⟨some (F.enc f), v10, rs, rfl, fun j => ?_, _, .inr rfl, ?_⟩
    · rw [h0]; split <;> grind
    · rw [_root_.decide_eq_true h0] at c4
      rw [ife_t c4, execs_cons, exec]
      rfl
  · obtain ⟨w10, rs', hl, hc, e⟩ := pdiv_in F d (S := S) (rs := rs) (ts := ts.set K f) (qs := qs) (K := K) (f := f) (v1 := v1) (v3 := v3) (v5 := some (.bl mon)) (v6 := some (F.enc iv)) (v7 := some (.ref (S.length + 1))) (v10 := v10) hq hqz hr
    refine ⟨some (F.enc f), w10, rs', hl, hc, _, .inl rfl, ?_⟩
    rw [_root_.decide_eq_false h0] at c4
    rw [ife_f c4, execs_nil, sq_nx, execs_cons, e, sq_nx, execs_nil]
end
end RG
set_option Elab.async false
set_option linter.all false
set_option maxRecDepth 100000
/-! Division of polynomials: quotient and rest. -/
namespace RG
open PySem Lean.Grind
section
variable {P : Prog} {α : Type} [Field α] [DecidableEq α]
theorem co_take (l : List α) (n j : Nat) : co (l.take n) j = if j < n then co l j else 0 := by
  unfold co
  rw [List.getD_eq_getElem?_getD, List.getD_eq_getElem?_getD, List.getElem?_take]
  split <;> rfl
theorem co_rep (n j : Nat) : co (List.replicate n (0 : α)) j = 0 := by
  unfold co
  rw [List.getD_eq_getElem?_getD, List.getElem?_replicate]
  split <;> rfl
theorem mulL_rep (n : Nat) (q : List α) (j : Nat) : co (mulL (List.replicate n (0 : α)) q) j = 0 := by
  have := mulL_congL (a := List.replicate n (0 : α)) (b := []) q (fun i => by rw [co_rep, co_nil]) j
  rw [this]
  exact co_nil j
theorem pdiv_loop (F : Fc P α) (d : Nat) {S : Store} (p q : Poly α) {n : Nat} {mon : Bool} {v3 v8 v9 v10 : Option D} (hq : 0 < q.len) (hn : n + q.len = p.len + 1) (hz : p.len ≤ 100000) (hmon : mon = true → (q.lc)⁻¹ = 1) (hv3 : v3 = some (.int (n : Int))) :
    ∃ ρ' rs ts, rs.length = p.len ∧ (∀ j, co p.c j = co (mulL ts q.c) j + if j < q.len - 1 then co rs j else 0) ∧
      (∃ w8 w9 w10, ρ' = [some F.fo, some (F.po p), some (F.po q), v3, some (.ref S.length), some (.bl mon), some (F.enc (q.lc)⁻¹), some (.ref (S.length + 1)), w8, w9, w10]) ∧
      exec P (callF P (d + F.k0)) (.for_ (.name 8) (.rng (.bin .sub (.var 3) (.lit (.int 1))) (.neg (.lit (.int 1))) (-1)) pdivBody) [some F.fo, some (F.po p), some (F.po q), v3, some (.ref S.length), some (.bl mon), some (F.enc (q.lc)⁻¹), some (.ref (S.length + 1)), v8, v9, v10] (st2 S (F.encs p.c) (F.encs (List.replicate n 0))) = some (.nx ρ' (st2 S (F.encs rs) (F.encs ts))) := by
  subst hv3
  have hlc := Poly.lc_ne hq
  have hs : ev P (callF P (d + F.k0)) (.bin .sub (.var 3) (.lit (.int 1))) [some F.fo, some (F.po p), some (F.po q), some (.int (n : Int)), some (.ref S.length), some (.bl mon), some (F.enc (q.lc)⁻¹), some (.ref (S.length + 1)), v8, v9, v10] (st2 S (F.encs p.c) (F.encs (List.replicate n 0))) = ret (.int ((n : Int) - 1)) (st2 S (F.encs p.c) (F.encs (List.replicate n 0))) := by
    rw [ev, ev_var (d := .int (n : Int)) rfl, bnd_ret, ev, bnd_ret]
    rfl
  rw [for_run (rngD_run hs (by omega))]
  obtain ⟨ρ', S', e, w8, w9, w10, rs, ts, rfl, rfl, hl, htl, ht0, hc⟩ := forGo_inv (t := .name 8) (g := none) (body := fun ρ S => execs P (callF P (d + F.k0)) pdivBody ρ S) (xs := (List.range n).map fun (k : Nat) => D.int ((n : Int) - 1 - k))
    (fun i ρ St => ∃ w8 w9 w10 rs ts, ρ = [some F.fo, some (F.po p), some (F.po q), some (.int (n : Int)), some (.ref S.length), some (.bl mon), some (F.enc (q.lc)⁻¹), some (.ref (S.length + 1)), w8, w9, w10] ∧ St = st2 S (F.encs rs) (F.encs ts) ∧ rs.length = p.len ∧ ts.length = n ∧ (∀ j, j < n - i → co ts j = 0) ∧
      ∀ j, co p.c j = co (mulL ts q.c) j + if j < (n - i) + q.len - 1 then co rs j else 0)
    (ρ := [some F.fo, some (F.po p), some (F.po q), some (.int (n : Int)), some (.ref S.length), some (.bl mon), some (F.enc (q.lc)⁻¹), some (.ref (S.length + 1)), v8, v9, v10]) (S := st2 S (F.encs p.c) (F.encs (List.replicate n 0)))
    ⟨v8, v9, v10, p.c, List.replicate n 0, rfl, rfl, rfl, List.length_replicate, fun j _ => co_rep n j, fun j => by
      rw [mulL_rep]
      by_cases hj : j < n - 0 + q.len - 1
      · rw [if_pos hj]; grind
      · rw [if_neg hj, Poly.co_ge (by omega)]; grind⟩ (by
      rintro i z ρ St hx ⟨w8, w9, w10, rs, ts, rfl, rfl, hl, htl, ht0, hc⟩
      obtain ⟨hi, rfl⟩ := range_get hx
      have hK : (n : Int) - 1 - (i : Int) = ((n - 1 - i : Nat) : Int) := by omega
      rw [hK]
      generalize hKe : n - 1 - i = K
      have hni : n - i = K + 1 := by omega
      have hni2 : n - (i + 1) = K := by omega
      obtain ⟨u9, u10, rs', hl', hc', r, hr, er⟩ := pdiv_body F d (S := S) (rs := rs) (ts := ts) (qs := q.c) (K := K) (iv := (q.lc)⁻¹) (mon := mon) (v1 := some (F.po p)) (v3 := some (.int (n : Int))) (v9 := w9) (v10 := w10) hmon hq (by show q.len ≤ _; omega) (by show K + q.len ≤ _; omega) (by omega)
      have hql : q.c.length = q.len := rfl
      rw [hql] at hc' hr
      have hfin : (∀ j, j < K → co (ts.set K (co rs (K + q.len - 1) * (q.lc)⁻¹)) j = 0) ∧ ∀ j, co p.c j = co (mulL (ts.set K (co rs (K + q.len - 1) * (q.lc)⁻¹)) q.c) j + if j < K + q.len - 1 then co rs' j else 0 := by
        refine ⟨fun j hj => ?_, fun j => ?_⟩
        · rw [co_set (by omega), if_neg (by omega)]
          exact ht0 j (by omega)
        · rw [mulL_set ts q.c K _ (by omega) j, ht0 K (by omega), hc j, hc' j, hni]
          by_cases h1 : j < K
          · rw [if_pos (by omega), if_neg (by omega), if_pos (by omega), if_neg (by omega)]; grind
          · by_cases h2 : j < K + q.len - 1
            · rw [if_pos (by omega), if_pos (by omega), if_pos h2, if_pos (by omega)]; grind
            · by_cases h3 : j = K + q.len - 1
              · rw [if_pos (by omega), if_pos (by omega), if_neg h2]
                have h4 : co q.c (j - K) = q.lc := by
                  unfold Poly.lc
                  congr 1
                  omega
                rw [h4, h3]
                grind
              · rw [if_neg (by omega), if_pos (by omega), if_neg h2, Poly.co_ge (p := q) (by omega)]; grind
      refine ⟨[some F.fo, some (F.po p), some (F.po q), some (.int (n : Int)), some (.ref S.length), some (.bl mon), some (F.enc (q.lc)⁻¹), some (.ref (S.length + 1)), some (.int (K : Int)), w9, w10], [some F.fo, some (F.po p), some (F.po q), some (.int (n : Int)), some (.ref S.length), some (.bl mon), some (F.enc (q.lc)⁻¹), some (.ref (S.length + 1)), some (.int (K : Int)), u9, u10], _, rfl, ?_, rfl, some (.int (K : Int)), u9, u10, rs', ts.set K (co rs (K + q.len - 1) * (q.lc)⁻¹), rfl, rfl, hl'.trans hl, by rw [List.length_set]; exact htl, fun j hj => hfin.1 j (by omega), fun j => by rw [hni2]; exact hfin.2 j⟩
      rcases hr with rfl | rfl
      · exact .inl er
      · exact .inr er)
  have hll : ((List.range n).map fun (k : Nat) => D.int ((n : Int) - 1 - k)).length = n := by simp
  rw [hll] at hc
  refine ⟨_, rs, ts, hl, fun j => ?_, ⟨w8, w9, w10, rfl⟩, e⟩
  have := hc j
  rw [Nat.sub_self, Nat.zero_add] at this
  exact this
theorem le_lit {cl : Nat → List D → Store → R D} {ρ : Env} {S : Store} {a : E} {i : Int} (z : Int) (ha : ev P cl a ρ S = ret (.int i) S) : ev P cl (.bin .le a (.lit (.int z))) ρ S = ret (.bl (decide (i ≤ z))) S := by
  rw [ev, ha, bnd_ret, ev, bnd_ret]
  rfl
theorem pdivide_po (F : Fc P α) (h1 : P.fn 1 = some F1) (h3 : P.fn 3 = some F3) (h11 : P.fn 11 = some F11) (d : Nat) (p q a r : Poly α) (he : p = a * q + r) (hr : r.len < q.len) (hz : p.len + q.len ≤ 100000) (S : Store) :
    callF P (d + F.k0 + 2) 11 [F.fo, F.po p, F.po q] S = ret (.tup [F.po a, F.po r]) S := by
  have hq : 0 < q.len := by omega
  have hd : d + F.k0 + 2 = (d + 1 + F.k0) + 1 := by omega
  rw [hd, call_eq h11 rfl (by decide), B11]
  generalize hρ : ([F.fo, F.po p, F.po q].map some ++ List.replicate (11 - 3) none : Env) = ρ
  have v1 : ev P (callF P (d + 1 + F.k0)) (.var 1) ρ S = ret (F.po p) S := ev_var (by rw [← hρ]; rfl)
  have v2 : ev P (callF P (d + 1 + F.k0)) (.var 2) ρ S = ret (F.po q) S := ev_var (by rw [← hρ]; rfl)
  have l1 : ev P (callF P (d + 1 + F.k0)) (.bi .len (.cons (.var 1) .nil)) ρ S = ret (.int (p.len : Int)) S := by
    have := len_run (xs := F.encs p.c) v1
    rwa [F.encs_len] at this
  have l2 : ev P (callF P (d + 1 + F.k0)) (.bi .len (.cons (.var 2) .nil)) ρ S = ret (.int (q.len : Int)) S := by
    have := len_run (xs := F.encs q.c) v2
    rwa [F.encs_len] at this
  have c0 := eq_nat (z := 0) 0 rfl l2
  rw [_root_.decide_eq_false (by omega)] at c0
  rw [execs_cons, ife_f c0, execs_nil, sq_nx, execs_cons]
  have s3 : ev P (callF P (d + 1 + F.k0)) (.bin .add (.bin .sub (.bi .len (.cons (.var 1) .nil)) (.bi .len (.cons (.var 2) .nil))) (.lit (.int 1))) ρ S = ret (.int ((p.len : Int) - (q.len : Int) + 1)) S := by
    rw [ev, ev, l1, bnd_ret, l2, bnd_ret]
    show bnd (ret (D.int ((p.len : Int) - (q.len : Int))) S) _ = _
    rw [bnd_ret, ev, bnd_ret]
    rfl
  rw [set_run s3, sq_nx, execs_cons]
  have hρ3 : ρ.set 3 (some (.int ((p.len : Int) - (q.len : Int) + 1))) = [some F.fo, some (F.po p), some (F.po q), some (.int ((p.len : Int) - (q.len : Int) + 1)), none, none, none, none, none, none, none] := by rw [← hρ]; rfl
  rw [hρ3]
  have c1 := le_lit (P := P) (cl := callF P (d + 1 + F.k0)) (ρ := [some F.fo, some (F.po p), some (F.po q), some (.int ((p.len : Int) - (q.len : Int) + 1)), none, none, none, none, none, none, none]) (S := S) (a := .var 3) 0 (ev_var rfl)
  by_cases hlt : p.len < q.len
  · rw [_root_.decide_eq_true (by omega)] at c1
    have hu := Poly.div_unique (a := a) (b := 0) (r := r) (s := p) (q := q) (by rw [← he]; grind) hr hlt
    obtain ⟨rfl, rfl⟩ := hu
    rw [ife_t c1, ret_run (S' := S) (v := .tup [F.po 0, F.po r]), sq_rt, fin_rt (by rw [D.lt, D.lts, D.lts, D.lts, F.po_lt, F.po_lt]; rfl), List.take_length]
    rw [F.po_zero, ev, evs, ev, evs, bnd_ret, bnd_ret, evs, ev, evs, ev_var (d := F.po r) rfl, bnd_ret, evs, bnd_ret, bnd_ret]
    rfl
  · rw [_root_.decide_eq_false (by omega)] at c1
    rw [ife_f c1, execs_nil, sq_nx, execs_cons]
    obtain ⟨n, hn⟩ : ∃ n : Nat, (p.len : Int) - (q.len : Int) + 1 = (n : Int) := ⟨p.len + 1 - q.len, by omega⟩
    rw [hn]
    rw [own_run (ofs_run (xs := F.encs p.c) (v := F.po p) (ev_var rfl) rfl), sq_nx, execs_cons]
    have hd2 : d + 1 + F.k0 = d + F.k0 + 1 := by omega
    have hlast : ∀ (ρ : Env) (St : Store), ρ[2]? = some (some (F.po q)) → ev P (callF P (d + 1 + F.k0)) (.call 3 (.cons (.var 2) .nil)) ρ St = ret (F.enc q.lc) St := fun ρ St h => by
      rw [call1 (ev_var h), hd2]
      exact last_po F h3 (d + F.k0) q hq St
    have hset : ([some F.fo, some (F.po p), some (F.po q), some (.int (n : Int)), none, none, none, none, none, none, none] : Env).set 4 (some (.ref S.length)) = [some F.fo, some (F.po p), some (F.po q), some (.int (n : Int)), some (.ref S.length), none, none, none, none, none, none] := rfl
    rw [hset]
    have s5 : ev P (callF P (d + 1 + F.k0)) (.bin .eq (.call 3 (.cons (.var 2) .nil)) (.meth (.var 0) 3 .nil)) [some F.fo, some (F.po p), some (F.po q), some (.int (n : Int)), some (.ref S.length), none, none, none, none, none, none] (S ++ [.lst (F.encs p.c)]) = ret (.bl (decide (q.lc = 1))) (S ++ [.lst (F.encs p.c)]) := by
      rw [ev, hlast _ _ rfl, bnd_ret, F.ev_one (ev_var rfl), bnd_ret, F.eqb]
      rfl
    rw [set_run s5, sq_nx, execs_cons]
    have hset5 : ([some F.fo, some (F.po p), some (F.po q), some (.int (n : Int)), some (.ref S.length), none, none, none, none, none, none] : Env).set 5 (some (.bl (decide (q.lc = 1)))) = [some F.fo, some (F.po p), some (F.po q), some (.int (n : Int)), some (.ref S.length), some (.bl (decide (q.lc = 1))), none, none, none, none, none] := rfl
    rw [hset5]
    have s6 : ev P (callF P (d + 1 + F.k0)) (.ite (.var 5) (.meth (.var 0) 3 .nil) (.meth (.var 0) 6 (.cons (.call 3 (.cons (.var 2) .nil)) .nil))) [some F.fo, some (F.po p), some (F.po q), some (.int (n : Int)), some (.ref S.length), some (.bl (decide (q.lc = 1))), none, none, none, none, none] (S ++ [.lst (F.encs p.c)]) = ret (F.enc (q.lc)⁻¹) (S ++ [.lst (F.encs p.c)]) := by
      rw [ev, ev_var (d := .bl (decide (q.lc = 1))) rfl, bnd_ret]
      by_cases h1 : q.lc = 1
      · rw [_root_.decide_eq_true h1]
        show ev P _ _ _ _ = _
        have : (q.lc)⁻¹ = 1 := by rw [h1]; grind
        rw [F.ev_one (ev_var rfl), this]
      · rw [_root_.decide_eq_false h1]
        show ev P _ _ _ _ = _
        exact F.ev_inv (Poly.lc_ne hq) (ev_var rfl) (by rw [evs, hlast _ _ rfl, bnd_ret, evs, bnd_ret])
    rw [set_run s6, sq_nx, execs_cons]
    have hset6 : ([some F.fo, some (F.po p), some (F.po q), some (.int (n : Int)), some (.ref S.length), some (.bl (decide (q.lc = 1))), none, none, none, none, none] : Env).set 6 (some (F.enc (q.lc)⁻¹)) = [some F.fo, some (F.po p), some (F.po q), some (.int (n : Int)), some (.ref S.length), some (.bl (decide (q.lc = 1))), some (F.enc (q.lc)⁻¹), none, none, none, none] := rfl
    rw [hset6, own_run (rep_run (F.ev_zero (ev_var rfl)) (n := n) (ev_var rfl) (by omega)), sq_nx, execs_cons, encs_rep]
    have hst : S ++ [.lst (F.encs p.c)] ++ [.lst (F.encs (List.replicate n 0))] = st2 S (F.encs p.c) (F.encs (List.replicate n 0)) := by simp [st2]
    have hln : (S ++ [Cell.lst (F.encs p.c)]).length = S.length + 1 := by simp
    rw [hst, hln]
    obtain ⟨ρ', rs, ts, hl, hc, ⟨w8, w9, w10, rfl⟩, e⟩ := pdiv_loop F (d + 1) (S := S) p q (n := n) (mon := decide (q.lc = 1)) (v3 := some (.int (n : Int))) (v8 := none) (v9 := none) (v10 := none) hq (by omega) (by omega) (fun h => by rw [_root_.of_decide_eq_true h]; grind) rfl
    have e' : exec P (callF P (d + 1 + F.k0)) (.for_ (.name 8) (.rng (.bin .sub (.var 3) (.lit (.int 1))) (.neg (.lit (.int 1))) (-1)) pdivBody) (([some F.fo, some (F.po p), some (F.po q), some (.int (n : Int)), some (.ref S.length), some (.bl (decide (q.lc = 1))), some (F.enc (q.lc)⁻¹), none, none, none, none] : Env).set 7 (some (.ref (S.length + 1)))) (st2 S (F.encs p.c) (F.encs (List.replicate n 0))) = some (.nx [some F.fo, some (F.po p), some (F.po q), some (.int (n : Int)), some (.ref S.length), some (.bl (decide (q.lc = 1))), some (F.enc (q.lc)⁻¹), some (.ref (S.length + 1)), w8, w9, w10] (st2 S (F.encs rs) (F.encs ts))) := e
    show fin false S.length (sq (exec P _ (.for_ _ _ pdivBody) _ _) _) = _
    rw [e', sq_nx]
    generalize hρ' : ([some F.fo, some (F.po p), some (F.po q), some (.int (n : Int)), some (.ref S.length), some (.bl (decide (q.lc = 1))), some (F.enc (q.lc)⁻¹), some (.ref (S.length + 1)), w8, w9, w10] : Env) = ρ'
    have t1 := trim_run F h1 d ts (.ref (S.length + 1)) (st2 S (F.encs rs) (F.encs ts)) (st2_i1 S _ _).1 (.inr (st2_i1 S _ _).2)
    have t2 := trim_run F h1 d (rs.take (q.len - 1)) (.lst (F.encs (rs.take (q.len - 1)))) (st2 S (F.encs rs) (F.encs ts)) rfl (.inr rfl)
    have l2' : ev P (callF P (d + 1 + F.k0)) (.bi .len (.cons (.var 2) .nil)) ρ' (st2 S (F.encs rs) (F.encs ts)) = ret (.int (q.len : Int)) (st2 S (F.encs rs) (F.encs ts)) := by
      have := len_run (P := P) (cl := callF P (d + 1 + F.k0)) (ρ := ρ') (S := st2 S (F.encs rs) (F.encs ts)) (e := .var 2) (xs := F.encs q.c) (ev_var (by rw [← hρ']; rfl))
      rwa [F.encs_len] at this
    have hsl : ev P (callF P (d + 1 + F.k0)) (.slc (.var 4) none (some ()) .bad (.bin .sub (.bi .len (.cons (.var 2) .nil)) (.lit (.int 1)))) ρ' (st2 S (F.encs rs) (F.encs ts)) = ret (.lst (F.encs (rs.take (q.len - 1)))) (st2 S (F.encs rs) (F.encs ts)) := by
      rw [ev, ev_var (d := .ref S.length) (by rw [← hρ']; rfl), bnd_ret]
      simp only
      rw [sub_nat (z := 1) 1 rfl (by omega) l2', bnd_ret]
      show (slice (st2 S (F.encs rs) (F.encs ts)) (.ref S.length) none (some ((q.len - 1 : Nat) : Int))).bind _ = _
      have : slice (st2 S (F.encs rs) (F.encs ts)) (.ref S.length) none (some ((q.len - 1 : Nat) : Int)) = some (.lst (F.encs (rs.take (q.len - 1)))) := by
        show (litems (st2 S (F.encs rs) (F.encs ts)) (.ref S.length)).map (fun xs => D.lst (cut xs none (some ((q.len - 1 : Nat) : Int)))) = _
        rw [(st2_i0 S _ _).2, Option.map_some]
        unfold cut sIx
        dsimp only
        rw [if_neg (by omega)]
        simp only [F.encs_len, Int.toNat_natCast, List.drop_zero, Nat.sub_zero]
        rw [Nat.min_eq_left (by omega)]
        unfold Fc.encs
        rw [List.map_take]
      rw [this]
      rfl
    have w0 : ev P (callF P (d + 1 + F.k0)) (.var 0) ρ' (st2 S (F.encs rs) (F.encs ts)) = ret F.fo (st2 S (F.encs rs) (F.encs ts)) := ev_var (by rw [← hρ']; rfl)
    have w7 : ev P (callF P (d + 1 + F.k0)) (.var 7) ρ' (st2 S (F.encs rs) (F.encs ts)) = ret (.ref (S.length + 1)) (st2 S (F.encs rs) (F.encs ts)) := ev_var (by rw [← hρ']; rfl)
    have hA : trim ts = a.c ∧ trim (rs.take (q.len - 1)) = r.c := by
      have hu := Poly.div_unique (a := a) (b := Poly.of ts) (r := r) (s := Poly.of (rs.take (q.len - 1))) (q := q) (by
        rw [← he]
        refine Poly.ext fun j => ?_
        rw [hc j, Poly.co_add, Poly.co_mul, Poly.co_of, co_take, mulL_congL q.c (a := (Poly.of ts).c) (b := ts) (Poly.co_of ts) j]) hr (by
        have h1 : (Poly.of (rs.take (q.len - 1))).len ≤ q.len - 1 := Poly.len_le fun j hj => by rw [Poly.co_of, co_take, if_neg (by omega)]
        omega)
      obtain ⟨rfl, rfl⟩ := hu
      exact ⟨rfl, rfl⟩
    rw [hA.1] at t1
    rw [hA.2] at t2
    rw [ret_run (S' := st2 S (F.encs rs) (F.encs ts)) (v := .tup [F.po a, F.po r]), fin_rt (by rw [D.lt, D.lts, D.lts, D.lts, F.po_lt, F.po_lt]; rfl), st2_take]
    rw [ev, evs, call2 w0 w7, hd2, t1, bnd_ret, evs, ← hd2, call2 w0 hsl, hd2, t2, bnd_ret, evs, bnd_ret, bnd_ret, bnd_ret]
    rfl
end
end RG
set_option Elab.async false
set_option linter.all false
/-! Rests of a prime: a field. -/
namespace RG
open Lean.Grind
/-- m is a prime, as far as it is needed: each rest but 0 has its power m - 2 as inverse -/
class PrimeP (m : Nat) : Prop where
  two : 2 ≤ m
  inv : ∀ a, a < m → a ≠ 0 → a * (a ^ (m - 2) % m) % m = 1
def primeB (m : Nat) : Bool := decide (2 ≤ m) && (List.range m).all fun a => a == 0 || a * (a ^ (m - 2) % m) % m == 1
theorem primeP_of {m : Nat} (h : primeB m = true) : PrimeP m := by
  unfold primeB at h
  simp only [Bool.and_eq_true, decide_eq_true_eq, List.all_eq_true, List.mem_range, Bool.or_eq_true, beq_iff_eq] at h
  exact ⟨h.1, fun a ha hz => (h.2 a ha).resolve_left hz⟩
instance : PrimeP 3 := primeP_of (by decide +kernel)
instance : PrimeP 5 := primeP_of (by decide +kernel)
instance : PrimeP 7 := primeP_of (by decide +kernel)
instance : PrimeP 11 := primeP_of (by decide +kernel)
instance nz {m : Nat} [h : PrimeP m] : NeZero m := ⟨by have := h.two; omega⟩
section
variable {m : Nat} [hp : PrimeP m]
def finPow (a : Fin m) : Nat → Fin m
  | 0 => 1
  | n + 1 => finPow a n * a
theorem finPow_val (a : Fin m) : ∀ n, (finPow a n).val = a.val ^ n % m
  | 0 => by
    show ((1 : Fin m)).val = _
    rw [Nat.pow_zero]
    exact Fin.val_ofNat _ _
  | n + 1 => by
    show (finPow a n * a).val = _
    rw [Fin.val_mul, finPow_val a n, Nat.pow_succ, Nat.mod_mul_mod]
def finInv (a : Fin m) : Fin m := if a = 0 then 0 else finPow a (m - 2)
theorem fin_one : ((1 : Fin m)).val = 1 := by
  have h2 := hp.two
  have : ((1 : Fin m)).val = 1 % m := Fin.val_ofNat _ _
  rw [this, Nat.mod_eq_of_lt (by omega)]
theorem fin_zero : ((0 : Fin m)).val = 0 := Fin.val_ofNat _ _ |>.trans (Nat.zero_mod m)
theorem fin_ne {a : Fin m} (h : a ≠ 0) : a.val ≠ 0 := fun z => h (Fin.ext (by rw [z, fin_zero]))
theorem fin_inv {a : Fin m} (h : a ≠ 0) : a * finInv a = 1 := by
  apply Fin.ext
  unfold finInv
  rw [if_neg h, Fin.val_mul, finPow_val, fin_one]
  exact hp.inv a.val a.isLt (fin_ne h)
theorem fin_01 : (0 : Fin m) ≠ 1 := fun h => by
  have := congrArg Fin.val h
  rw [fin_zero, fin_one] at this
  cases this
theorem fin_inv1 : finInv (1 : Fin m) = 1 := by
  have h := fin_inv (m := m) (a := 1) (fun z => fin_01 z.symm)
  have : (1 : Fin m) * finInv 1 = finInv 1 := by grind
  rw [this] at h
  exact h
theorem fin_invinv (a : Fin m) : finInv (finInv a) = a := by
  by_cases h : a = 0
  · have : finInv a = 0 := by unfold finInv; rw [if_pos h]
    rw [this, h]
    unfold finInv
    rw [if_pos rfl]
  · have h1 := fin_inv h
    have h0 : finInv a ≠ 0 := fun z => by
      rw [z] at h1
      apply fin_01 (m := m)
      rw [← h1]; grind
    have h2 := fin_inv h0
    have : finInv (finInv a) = (a * finInv a) * finInv (finInv a) := by rw [h1]; grind
    rw [this]
    have : a * finInv a * finInv (finInv a) = a * (finInv a * finInv (finInv a)) := by grind
    rw [this, h2]; grind
instance fld : Field (Fin m) where
  inv := finInv
  div := fun a b => a * finInv b
  zpow := ⟨fun a n => match n with
    | .ofNat n => a ^ n
    | .negSucc n => finInv (a ^ (n + 1))⟩
  div_eq_mul_inv := fun _ _ => rfl
  zero_ne_one := fin_01
  inv_zero := by show finInv 0 = 0; unfold finInv; rw [if_pos rfl]
  mul_inv_cancel := fun h => fin_inv h
  zpow_zero := fun a => Semiring.pow_zero a
  zpow_succ := fun a n => Semiring.pow_succ a n
  zpow_neg := fun a n => by
    cases n with
    | ofNat n =>
      cases n with
      | zero =>
        show a ^ (0 : Nat) = finInv (a ^ (0 : Nat))
        rw [Semiring.pow_zero, fin_inv1]
      | succ n => rfl
    | negSucc n =>
      show a ^ (n + 1) = finInv (finInv (a ^ (n + 1)))
      rw [fin_invinv]
end
end RG
set_option Elab.async false
set_option linter.all false
set_option maxRecDepth 100000
/-! PrimeField works in the rests of a prime. -/
namespace RG
open PySem Lean.Grind
/-- the class PrimeField stands in the text -/
structure PfOk (P : Prog) : Prop where
  fok : P.fok 5 28 = true
  m0 : P.meth 5 0 = some 180
  m1 : P.meth 5 1 = some 181
  m2 : P.meth 5 2 = some 183
  m3 : P.meth 5 3 = some 179
  m4 : P.meth 5 4 = some 184
  m5 : P.meth 5 5 = some 178
  m6 : P.meth 5 6 = some 185
  m7 : P.meth 5 7 = some 182
  m18 : P.meth 5 18 = some 187
  f178 : P.fn 178 = some F178
  f179 : P.fn 179 = some F179
  f180 : P.fn 180 = some F180
  f181 : P.fn 181 = some F181
  f182 : P.fn 182 = some F182
  f183 : P.fn 183 = some F183
  f184 : P.fn 184 = some F184
  f185 : P.fn 185 = some F185
  f187 : P.fn 187 = some F187
def pfo (m : Nat) : D := .obj 5 [28] [.int (m : Int)]
theorem fmod_nat (a b : Nat) : Int.fmod (a : Int) (b : Int) = ((a % b : Nat) : Int) := by
  rw [Int.fmod_eq_emod_of_nonneg _ (by omega)]; rfl
theorem fdiv_nat (a b : Nat) : Int.fdiv (a : Int) (b : Int) = ((a / b : Nat) : Int) := by
  rw [Int.fdiv_eq_ediv_of_nonneg _ (by omega)]; rfl
theorem bits_small {a b : Nat} (h : a < 1000000) : bitsOk (a : Int) (b : Int) = true := by
  unfold bitsOk
  simp only [Bool.or_eq_true, decide_eq_true_eq]
  left; left
  omega
section
variable {P : Prog} {cl : Nat → List D → Store → R D} {ρ : Env} {S : Store}
theorem prime_fld (hf : P.fok 5 28 = true) {m : Nat} {o : E} (ho : ev P cl o ρ S = ret (pfo m) S) : ev P cl (.fld o 28) ρ S = ret (.int (m : Int)) S := by
  rw [ev, ho, bnd_ret]
  simp only [pfo, hf, if_true]
  rfl
theorem mod_nat (m : Nat) (hm : 0 < m) {a b : E} {x : Nat} (ha : ev P cl a ρ S = ret (.int (x : Int)) S) (hb : ev P cl b ρ S = ret (.int (m : Int)) S) : ev P cl (.bin .mod a b) ρ S = ret (.int ((x % m : Nat) : Int)) S := by
  rw [ev, ha, bnd_ret, hb, bnd_ret]
  show (if (m : Int) ≠ 0 then some (D.int (Int.fmod x m)) else none).bind _ = _
  rw [if_pos (by omega), fmod_nat]
  rfl
theorem mul_nat {a b : E} {x y : Nat} (hx : x < 1000000) (ha : ev P cl a ρ S = ret (.int (x : Int)) S) (hb : ev P cl b ρ S = ret (.int (y : Int)) S) : ev P cl (.bin .mul a b) ρ S = ret (.int ((x * y : Nat) : Int)) S := by
  rw [ev, ha, bnd_ret, hb, bnd_ret]
  show (if bitsOk x y then some (D.int ((x : Int) * (y : Int))) else none).bind _ = _
  rw [if_pos (bits_small hx), Int.natCast_mul]
  rfl
end
theorem pf_ret {P : Prog} {d : Nat} {S : Store} {f n k : Nat} {e : E} {args : List D} {r : Int} (hf : P.fn f = some ⟨n, k, .cons (.ret e) .nil, false⟩) (hn : args.length = n) (hk : n ≤ k) (he : ev P (callF P d) e (args.map some ++ List.replicate (k - n) none) S = ret (.int r) S) : callF P (d + 1) f args S = ret (.int r) S := by
  rw [call_eq hf hn hk, ret_run he, fin_rt rfl, List.take_length]
section
variable {P : Prog} (h : PfOk P) {m : Nat} (hm : 0 < m) (hz : m < 1000000)
include h hm hz
theorem pf_powloop (d : Nat) (S : Store) : ∀ (k a out : Nat), a < m → out < m → ∃ a', exec P (callF P d) (.whl (.bin .gt (.var 2) (.lit (.int 0))) (.cons (.ife (.bin .eq (.bin .mod (.var 2) (.lit (.int 2))) (.lit (.int 1))) (.cons (.set 3 (.bin .mod (.bin .mul (.var 3) (.var 1)) (.fld (.var 0) 28)))
  .nil) .nil)
  (.cons (.set 1 (.bin .mod (.bin .mul (.var 1) (.var 1)) (.fld (.var 0) 28)))
  (.cons (.set 2 (.bin .fdv (.var 2) (.lit (.int 2))))
  .nil)))) [some (pfo m), some (.int (a : Int)), some (.int (k : Int)), some (.int (out : Int))] S = some (.nx [some (pfo m), some (.int (a' : Nat)), some (.int 0), some (.int ((out * a ^ k % m : Nat) : Int))] S) := by
  intro k
  induction k using Nat.strongRecOn with
  | ind k ih =>
    intro a out ha ho
    have c : ev P (callF P d) (.bin .gt (.var 2) (.lit (.int 0))) [some (pfo m), some (.int (a : Int)), some (.int (k : Int)), some (.int (out : Int))] S = ret (.bl (decide (0 < (k : Int)))) S := by
      rw [ev, ev_var (d := .int (k : Int)) rfl, bnd_ret, ev, bnd_ret]
      rfl
    by_cases hk : k = 0
    · subst hk
      rw [_root_.decide_eq_false (by omega)] at c
      refine ⟨a, ?_⟩
      rw [whl_no c, Nat.pow_zero, Nat.mul_one, Nat.mod_eq_of_lt ho]
      rfl
    · rw [_root_.decide_eq_true (by omega)] at c
      have c1 : ev P (callF P d) (.bin .eq (.bin .mod (.var 2) (.lit (.int 2))) (.lit (.int 1))) [some (pfo m), some (.int (a : Int)), some (.int (k : Int)), some (.int (out : Int))] S = ret (.bl (decide (k % 2 = 1))) S :=
        eq_nat (z := 1) 1 rfl (mod_nat 2 (by omega) (ev_var rfl) (by rw [ev]; rfl))
      have s1 : exec P (callF P d) (.ife (.bin .eq (.bin .mod (.var 2) (.lit (.int 2))) (.lit (.int 1))) (.cons (.set 3 (.bin .mod (.bin .mul (.var 3) (.var 1)) (.fld (.var 0) 28))) .nil) .nil) [some (pfo m), some (.int (a : Int)), some (.int (k : Int)), some (.int (out : Int))] S =
          some (.nx [some (pfo m), some (.int (a : Int)), some (.int (k : Int)), some (.int ((if k % 2 = 1 then out * a % m else out : Nat) : Int))] S) := by
        by_cases h1 : k % 2 = 1
        · rw [_root_.decide_eq_true h1] at c1
          rw [ife_t c1, execs_cons, set_run (mod_nat m hm (mul_nat (x := out) (y := a) (by omega) (ev_var rfl) (ev_var rfl)) (prime_fld h.fok (ev_var rfl))), sq_nx, execs_nil, if_pos h1]
          rfl
        · rw [_root_.decide_eq_false h1] at c1
          rw [ife_f c1, execs_nil, if_neg h1]
      have ho' : (if k % 2 = 1 then out * a % m else out) < m := by
        split
        · exact Nat.mod_lt _ hm
        · exact ho
      generalize ho2 : (if k % 2 = 1 then out * a % m else out) = out2 at s1 ho'
      have hb : execs P (callF P d) (.cons (.ife (.bin .eq (.bin .mod (.var 2) (.lit (.int 2))) (.lit (.int 1))) (.cons (.set 3 (.bin .mod (.bin .mul (.var 3) (.var 1)) (.fld (.var 0) 28))) .nil) .nil)
          (.cons (.set 1 (.bin .mod (.bin .mul (.var 1) (.var 1)) (.fld (.var 0) 28))) (.cons (.set 2 (.bin .fdv (.var 2) (.lit (.int 2)))) .nil))) [some (pfo m), some (.int (a : Int)), some (.int (k : Int)), some (.int (out : Int))] S =
          some (.nx [some (pfo m), some (.int ((a * a % m : Nat) : Int)), some (.int ((k / 2 : Nat) : Int)), some (.int (out2 : Int))] S) := by
        rw [execs_cons, s1, sq_nx, execs_cons, set_run (mod_nat m hm (mul_nat (x := a) (y := a) (by omega) (ev_var rfl) (ev_var rfl)) (prime_fld h.fok (ev_var rfl))), sq_nx, execs_cons]
        have e2 : ev P (callF P d) (.bin .fdv (.var 2) (.lit (.int 2))) ([some (pfo m), some (.int (a : Int)), some (.int (k : Int)), some (.int (out2 : Int))].set 1 (some (.int ((a * a % m : Nat) : Int)))) S = ret (.int ((k / 2 : Nat) : Int)) S := by
          rw [ev, ev_var (d := .int (k : Int)) rfl, bnd_ret, ev, bnd_ret]
          show (if divOk 2 then some (D.int (Int.fdiv k 2)) else none).bind _ = _
          rw [if_pos (by decide +kernel)]
          have := fdiv_nat k 2
          rw [show ((2 : Nat) : Int) = 2 from rfl] at this
          rw [this]
          rfl
        rw [set_run e2, sq_nx, execs_nil]
        rfl
      obtain ⟨a', e⟩ := ih (k / 2) (by omega) (a * a % m) out2 (Nat.mod_lt _ hm) ho'
      refine ⟨a', ?_⟩
      rw [whl_nx c hb, e]
      have : out2 * (a * a % m) ^ (k / 2) % m = out * a ^ k % m := by
        rw [Nat.mul_mod, ← Nat.pow_mod, ← Nat.mul_mod, ← ho2]
        have hp : a ^ k = (a * a) ^ (k / 2) * a ^ (k % 2) := by
          rw [← Nat.pow_two, ← Nat.pow_mul, ← Nat.pow_add, Nat.div_add_mod]
        rw [hp]
        by_cases h1 : k % 2 = 1
        · rw [if_pos h1, h1, Nat.pow_one, Nat.mul_mod, Nat.mod_mod, ← Nat.mul_mod]
          congr 1
          rw [Nat.mul_assoc, Nat.mul_comm a]
        · have h0 : k % 2 = 0 := by omega
          rw [if_neg h1, h0, Nat.pow_zero, Nat.mul_one]
      rw [this]
theorem pf_power (d : Nat) (S : Store) (a k : Nat) (ha : a < m) (h1m : 1 < m) : callF P (d + 1) 187 [pfo m, .int (a : Int), .int (k : Int)] S = ret (.int ((a ^ k % m : Nat) : Int)) S := by
  rw [call_eq h.f187 rfl (by decide), B187, execs_cons]
  have c : ev P (callF P d) (.bin .lt (.var 2) (.lit (.int 0))) ([pfo m, .int (a : Int), .int (k : Int)].map some ++ List.replicate (4 - 3) none) S = ret (.bl (decide ((k : Int) < 0))) S := by
    rw [ev, ev_var (d := .int (k : Int)) rfl, bnd_ret, ev, bnd_ret]
    rfl
  rw [_root_.decide_eq_false (by omega)] at c
  rw [ife_f c, execs_nil, sq_nx, execs_cons, set_run (v := .int 1) (S' := S) (by rw [ev]), sq_nx, execs_cons]
  obtain ⟨a', e⟩ := pf_powloop h hm hz d S k a 1 ha h1m
  have e' : exec P (callF P d) (.whl (.bin .gt (.var 2) (.lit (.int 0))) (.cons (.ife (.bin .eq (.bin .mod (.var 2) (.lit (.int 2))) (.lit (.int 1))) (.cons (.set 3 (.bin .mod (.bin .mul (.var 3) (.var 1)) (.fld (.var 0) 28)))
  .nil) .nil)
  (.cons (.set 1 (.bin .mod (.bin .mul (.var 1) (.var 1)) (.fld (.var 0) 28)))
  (.cons (.set 2 (.bin .fdv (.var 2) (.lit (.int 2))))
  .nil)))) (([pfo m, .int (a : Int), .int (k : Int)].map some ++ List.replicate (4 - 3) none).set 3 (some (.int 1))) S = some (.nx [some (pfo m), some (.int (a' : Nat)), some (.int 0), some (.int ((1 * a ^ k % m : Nat) : Int))] S) := e
  rw [e', sq_nx, ret_run (S' := S) (v := .int ((1 * a ^ k % m : Nat) : Int)) (ev_var rfl), fin_rt rfl, List.take_length, Nat.one_mul]
theorem pf_inv (d : Nat) (S : Store) (a : Nat) (ha : a < m) (h0 : a ≠ 0) (h1m : 1 < m) : callF P (d + 2) 185 [pfo m, .int (a : Int)] S = ret (.int ((a ^ (m - 2) % m : Nat) : Int)) S := by
  rw [call_eq h.f185 rfl (by decide), B185, execs_cons]
  have c : ev P (callF P (d + 1)) (.bin .eq (.var 1) (.lit (.int 0))) ([pfo m, .int (a : Int)].map some ++ List.replicate (2 - 2) none) S = ret (.bl (decide (a = 0))) S := eq_nat (z := 0) 0 rfl (ev_var rfl)
  rw [_root_.decide_eq_false h0] at c
  rw [ife_f c, execs_nil, sq_nx]
  have v0 : ev P (callF P (d + 1)) (.var 0) ([pfo m, .int (a : Int)].map some ++ List.replicate (2 - 2) none) S = ret (pfo m) S := ev_var rfl
  rw [ret_run (S' := S) (v := .int ((a ^ (m - 2) % m : Nat) : Int)), fin_rt rfl, List.take_length]
  rw [ev_meth (show ev P (callF P (d + 1)) (.var 0) _ S = ret (.obj 5 [28] [.int (m : Int)]) S from v0) h.m18 rfl, evs, ev_var (d := .int (a : Int)) rfl, bnd_ret, evs, sub_nat (z := 2) 2 rfl (by omega) (prime_fld h.fok v0), bnd_ret, evs, bnd_ret, bnd_ret, bnd_ret]
  exact pf_power h hm hz d S a (m - 2) ha h1m
end
def pfc {P : Prog} (h : PfOk P) (m : Nat) [hp : PrimeP m] (hz : m < 1000000) : Fc P (Fin m) where
  c := 5
  ks := [28]
  vs := [.int (m : Int)]
  enc := fun a => .int (a.val : Int)
  k0 := 2
  lt0 := fun a n => rfl
  fo_lt := fun n => by rw [D.lts, D.lts]; rfl
  eqb := fun a b => by
    show some (D.bl ((a.val : Int) == (b.val : Int))) = _
    congr 2
    by_cases e : a = b
    · subst e; simp
    · rw [_root_.decide_eq_false e, beq_eq_false_iff_ne]
      intro z
      exact e (Fin.ext (by omega))
  is_zero := ⟨180, h.m0, rfl, fun d S a => by
    have hm : 0 < m := by have := hp.two; omega
    rw [call_eq h.f180 rfl (by decide), B180]
    have c : ev P (callF P (d + 1)) (.bin .eq (.var 1) (.lit (.int 0))) ([.obj 5 [28] [.int (m : Int)], .int (a.val : Int)].map some ++ List.replicate (2 - 2) none) S = ret (.bl (decide (a.val = 0))) S := eq_nat (z := 0) 0 rfl (ev_var rfl)
    rw [ret_run c, fin_rt rfl, List.take_length]
    congr 2
    by_cases e : a = 0
    · rw [_root_.decide_eq_true e, _root_.decide_eq_true (by rw [e, fin_zero])]
    · rw [_root_.decide_eq_false e, _root_.decide_eq_false (fin_ne e)]⟩
  add := ⟨181, h.m1, rfl, fun d S a b => by
    have hm : 0 < m := by have := hp.two; omega
    refine pf_ret (d := d + 1) (r := ((a + b : Fin m).val : Int)) h.f181 rfl (by decide) ?_
    rw [Fin.val_add]
    exact mod_nat m hm (add_nat (ev_var rfl) (ev_var rfl)) (prime_fld h.fok (ev_var rfl))⟩
  neg := ⟨183, h.m2, rfl, fun d S a => by
    have hm : 0 < m := by have := hp.two; omega
    refine pf_ret (d := d + 1) (r := ((-a : Fin m).val : Int)) h.f183 rfl (by decide) ?_
    rw [ev, ev, ev_var (d := .int (a.val : Int)) rfl, bnd_ret]
    show bnd (ret (D.int (-(a.val : Int))) S) _ = _
    rw [bnd_ret, prime_fld h.fok (m := m) (ev_var rfl), bnd_ret]
    show (if (m : Int) ≠ 0 then some (D.int (Int.fmod (-(a.val : Int)) m)) else none).bind _ = _
    rw [if_pos (by omega)]
    have : Int.fmod (-(a.val : Int)) m = ((-a : Fin m).val : Int) := by
      rw [Int.fmod_eq_emod_of_nonneg _ (by omega), Fin.val_neg']
      have e : (((m - a.val) % m : Nat) : Int) = ((m - a.val : Nat) : Int) % (m : Int) := rfl
      rw [e, Int.ofNat_sub (Nat.le_of_lt a.isLt), show (m : Int) - (a.val : Int) = -(a.val : Int) + (m : Int) * 1 by omega, Int.add_mul_emod_self_left]
    rw [this]
    rfl⟩
  one := ⟨179, h.m3, rfl, fun d S => by
    refine pf_ret (d := d + 1) (r := ((1 : Fin m).val : Int)) h.f179 rfl (by decide) ?_
    rw [fin_one, ev]
    rfl⟩
  mul := ⟨184, h.m4, rfl, fun d S a b => by
    have hm : 0 < m := by have := hp.two; omega
    refine pf_ret (d := d + 1) (r := ((a * b : Fin m).val : Int)) h.f184 rfl (by decide) ?_
    rw [Fin.val_mul]
    exact mod_nat m hm (mul_nat (by have := a.isLt; omega) (ev_var rfl) (ev_var rfl)) (prime_fld h.fok (ev_var rfl))⟩
  zero := ⟨178, h.m5, rfl, fun d S => by
    refine pf_ret (d := d + 1) (r := ((0 : Fin m).val : Int)) h.f178 rfl (by decide) ?_
    rw [fin_zero, ev]
    rfl⟩
  inv := ⟨185, h.m6, rfl, fun d S a ha => by
    have h2 := hp.two
    have e := pf_inv h (by omega) hz d S a.val a.isLt (fin_ne ha) (by omega)
    refine e.trans ?_
    show _ = ret (D.int ((finInv a).val : Int)) S
    unfold finInv
    rw [if_neg ha, finPow_val]⟩
  sub := ⟨182, h.m7, rfl, fun d S a b => by
    have hm : 0 < m := by have := hp.two; omega
    refine pf_ret (d := d + 1) (r := ((a - b : Fin m).val : Int)) h.f182 rfl (by decide) ?_
    rw [ev, ev, ev_var (d := .int (a.val : Int)) rfl, bnd_ret, ev_var (d := .int (b.val : Int)) rfl, bnd_ret]
    show bnd (ret (D.int ((a.val : Int) - (b.val : Int))) S) _ = _
    rw [bnd_ret, prime_fld h.fok (m := m) (ev_var rfl), bnd_ret]
    show (if (m : Int) ≠ 0 then some (D.int (Int.fmod ((a.val : Int) - (b.val : Int)) m)) else none).bind _ = _
    rw [if_pos (by omega)]
    have : Int.fmod ((a.val : Int) - (b.val : Int)) m = ((a - b : Fin m).val : Int) := by
      rw [Int.fmod_eq_emod_of_nonneg _ (by omega), Fin.sub_def]
      have e : (((m - b.val + a.val) % m : Nat) : Int) = ((m - b.val + a.val : Nat) : Int) % (m : Int) := rfl
      show _ = (((m - b.val + a.val) % m : Nat) : Int)
      rw [e, Int.natCast_add, Int.ofNat_sub (Nat.le_of_lt b.isLt), show (m : Int) - (b.val : Int) + (a.val : Int) = ((a.val : Int) - (b.val : Int)) + (m : Int) * 1 by omega, Int.add_mul_emod_self_left]
    rw [this]
    rfl⟩
end RG
set_option Elab.async false
set_option linter.all false
set_option maxRecDepth 100000
/-! Values of expressions, at every depth from k on, the cells left as they are. -/
namespace RG
open PySem Lean.Grind
def Fnv (P : Prog) (k f : Nat) (args : List D) (v : D) : Prop := ∀ (d : Nat) (S : Store), callF P (d + k) f args S = ret v S
def Ev (P : Prog) (k : Nat) (e : E) (ρ : Env) (v : D) : Prop := ∀ (d : Nat) (S : Store), ev P (callF P (d + k)) e ρ S = ret v S
def Evs (P : Prog) (k : Nat) (es : Es) (ρ : Env) (vs : List D) : Prop := ∀ (d : Nat) (S : Store), evs P (callF P (d + k)) es ρ S = ret vs S
/-- a block that hands v back -/
def Exr (P : Prog) (k : Nat) (b : Ss) (ρ : Env) (v : D) : Prop := ∀ (d : Nat) (S : Store), ∃ S', execs P (callF P (d + k)) b ρ S = some (.rt v S') ∧ S'.take S.length = S
section
variable {P : Prog} {k : Nat} {ρ : Env}
theorem Fnv.up {j f : Nat} {args : List D} {v : D} (h : Fnv P j f args v) (hj : j ≤ k) : Fnv P k f args v := fun d S => by
  have := h (d + (k - j)) S
  rwa [show d + (k - j) + j = d + k by omega] at this
theorem Ev.up {j : Nat} {e : E} {v : D} (h : Ev P j e ρ v) (hj : j ≤ k) : Ev P k e ρ v := fun d S => by
  have := h (d + (k - j)) S
  rwa [show d + (k - j) + j = d + k by omega] at this
theorem Ev.var {i : Nat} {d : D} (h : ρ[i]? = some (some d)) : Ev P k (.var i) ρ d := fun _ _ => ev_var h
theorem Ev.lit (d : D) : Ev P k (.lit d) ρ d := fun _ _ => ev_lit d
theorem Evs.nil : Evs P k .nil ρ [] := fun _ _ => by rw [evs]
theorem Evs.cons {e : E} {es : Es} {v : D} {vs : List D} (h : Ev P k e ρ v) (hs : Evs P k es ρ vs) : Evs P k (.cons e es) ρ (v :: vs) := fun d S => by rw [evs, h, bnd_ret, hs, bnd_ret]
theorem Ev.tup {es : Es} {vs : List D} (h : Evs P k es ρ vs) : Ev P k (.tup es) ρ (.tup vs) := fun d S => by rw [ev, h, bnd_ret]
theorem Ev.call {f j : Nat} {es : Es} {vs : List D} {v : D} (hf : Fnv P j f vs v) (hj : j ≤ k) (h : Evs P k es ρ vs) : Ev P k (.call f es) ρ v := fun d S => by
  rw [ev, h, bnd_ret]
  exact hf.up hj d S
theorem Ev.idx {a b : E} {xs : List D} {x : D} (j : Nat) (ha : Ev P k a ρ (.tup xs)) (hb : Ev P k b ρ (.int (j : Int))) (hx : xs[j]? = some x) : Ev P k (.idx a b) ρ x := fun d S => idx_run (ha d S) (hb d S) rfl hx
theorem Ev.len {e : E} {xs : List D} (h : Ev P k e ρ (.tup xs)) : Ev P k (.bi .len (.cons e .nil)) ρ (.int (xs.length : Int)) := fun d S => len_run (h d S)
theorem Ev.and {a b : E} {x y : Bool} (ha : Ev P k a ρ (.bl x)) (hb : Ev P k b ρ (.bl y)) : Ev P k (.and a b) ρ (.bl (x && y)) := fun d S => and_run (ha d S) (hb d S)
theorem Ev.or {a b : E} {x y : Bool} (ha : Ev P k a ρ (.bl x)) (hb : Ev P k b ρ (.bl y)) : Ev P k (.or a b) ρ (.bl (x || y)) := fun d S => or_run (ha d S) (hb d S)
theorem Ev.not {a : E} {x : Bool} (ha : Ev P k a ρ (.bl x)) : Ev P k (.not a) ρ (.bl (!x)) := fun d S => not_run (ha d S)
theorem Ev.and_f {a b : E} (ha : Ev P k a ρ (.bl false)) : Ev P k (.and a b) ρ (.bl false) := fun d S => by rw [ev, ha, bnd_ret]
theorem Ev.or_t {a b : E} (ha : Ev P k a ρ (.bl true)) : Ev P k (.or a b) ρ (.bl true) := fun d S => by rw [ev, ha, bnd_ret]
theorem Ev.ite {c a b : E} {x : Bool} {v : D} (hc : Ev P k c ρ (.bl x)) (ha : x = true → Ev P k a ρ v) (hb : x = false → Ev P k b ρ v) : Ev P k (.ite c a b) ρ v := fun d S => by
  rw [ev, hc, bnd_ret]
  cases x with
  | true => exact ha rfl d S
  | false => exact hb rfl d S
/-- binary operators by their values -/
theorem Ev.bin {o : Op} {a b : E} {x y z : D} (ha : Ev P k a ρ x) (hb : Ev P k b ρ y) (h : binop o x y = some z) : Ev P k (.bin o a b) ρ z := fun d S => by
  rw [ev, ha, bnd_ret, hb, bnd_ret, h]
  rfl
theorem Ev.isN {ng : Bool} {a : E} {x : D} (ha : Ev P k a ρ x) : Ev P k (.isN ng a) ρ (.bl (if ng then !x.isNon else x.isNon)) := fun d S => by rw [ev, ha, bnd_ret]
theorem Exr.ret {e : E} {v : D} (h : Ev P k e ρ v) : Exr P k (.cons (.ret e) .nil) ρ v := fun d S => ⟨S, ret_run (h d S), List.take_length⟩
theorem Exr.set {i : Nat} {e : E} {w v : D} {b : Ss} (h : Ev P k e ρ w) (hb : Exr P k b (ρ.set i (some w)) v) : Exr P k (.cons (.set i e) b) ρ v := fun d S => by
  obtain ⟨S', e', t⟩ := hb d S
  exact ⟨S', by rw [execs_cons, set_run (h d S), sq_nx]; exact e', t⟩
theorem Exr.unp {tg : Tg} {e : E} {w v : D} {b : Ss} {ρ' : Env} (h : Ev P k e ρ w) (hρ : ∀ S, bind S tg w ρ = some ρ') (hb : Exr P k b ρ' v) : Exr P k (.cons (.unp tg e) b) ρ v := fun d S => by
  obtain ⟨S', e', t⟩ := hb d S
  refine ⟨S', ?_, t⟩
  rw [execs_cons, exec, h, stp_ret, hρ, Option.map_some, sq_nx]
  exact e'
theorem Exr.par {is : List Nat} {es : Es} {vs : List D} {v : D} {b : Ss} {ρ' : Env} (h : Evs P k es ρ vs) (hρ : setAll is vs ρ = some ρ') (hb : Exr P k b ρ' v) : Exr P k (.cons (.par is es) b) ρ v := fun d S => by
  obtain ⟨S', e', t⟩ := hb d S
  refine ⟨S', ?_, t⟩
  rw [execs_cons, exec, h]
  show sq ((setAll is vs ρ).map fun ρ => Out.nx ρ S) _ = _
  rw [hρ, Option.map_some, sq_nx]
  exact e'
/-- if c: return ..; the rest -/
theorem Exr.ifr {c : E} {a r : Ss} {x : Bool} {v : D} (hc : Ev P k c ρ (.bl x)) (ha : x = true → Exr P k a ρ v) (hr : x = false → Exr P k r ρ v) : Exr P k (.cons (.ife c a .nil) r) ρ v := fun d S => by
  cases x with
  | true =>
    obtain ⟨S', e', t⟩ := ha rfl d S
    exact ⟨S', by rw [execs_cons, ife_t (hc d S), e', sq_rt], t⟩
  | false =>
    obtain ⟨S', e', t⟩ := hr rfl d S
    exact ⟨S', by rw [execs_cons, ife_f (hc d S), execs_nil, sq_nx]; exact e', t⟩
/-- a def by its body -/
theorem Fnv.of {f n s : Nat} {b : Ss} {args : List D} {v : D} (hf : P.fn f = some ⟨n, s, b, false⟩) (hn : args.length = n) (hs : n ≤ s) (hv : ∀ i, v.lt i = true) (hb : Exr P k b (args.map some ++ List.replicate (s - n) none) v) : Fnv P (k + 1) f args v := fun d S => by
  obtain ⟨S', e, t⟩ := hb d S
  rw [show d + (k + 1) = d + k + 1 by omega, call_eq hf hn hs, e, fin_rt (hv _), t]
end
section
variable {P : Prog} {α : Type} [Field α] [DecidableEq α] (F : Fc P α) {k : Nat} {ρ : Env}
theorem Fc.fadd (h1 : P.fn 1 = some F1) (h5 : P.fn 5 = some F5) (p q : Poly α) : Fnv P (F.k0 + 2) 5 [F.fo, F.po p, F.po q] (F.po (p + q)) := fun d S => by
  rw [show d + (F.k0 + 2) = d + F.k0 + 2 by omega]; exact padd_po F h1 h5 d p q S
theorem Fc.fsub (h1 : P.fn 1 = some F1) (h5 : P.fn 5 = some F5) (h6 : P.fn 6 = some F6) (h7 : P.fn 7 = some F7) (p q : Poly α) (hz : q.len ≤ 100000) : Fnv P (F.k0 + 3) 7 [F.fo, F.po p, F.po q] (F.po (p - q)) := fun d S => by
  rw [show d + (F.k0 + 3) = d + F.k0 + 3 by omega]; exact psub_po F h1 h5 h6 h7 d p q hz S
theorem Fc.fmul (h1 : P.fn 1 = some F1) (h8 : P.fn 8 = some F8) (h9 : P.fn 9 = some F9) (p q : Poly α) (hz : p.len + q.len ≤ 100000) : Fnv P (F.k0 + 2) 9 [F.fo, F.po p, F.po q] (F.po (p * q)) := fun d S => by
  rw [show d + (F.k0 + 2) = d + F.k0 + 2 by omega]; exact pmul_po F h1 h8 h9 d p q hz S
theorem Fc.fdiv (h1 : P.fn 1 = some F1) (h3 : P.fn 3 = some F3) (h11 : P.fn 11 = some F11) {p q a r : Poly α} (he : p = a * q + r) (hr : r.len < q.len) (hz : p.len + q.len ≤ 100000) : Fnv P (F.k0 + 2) 11 [F.fo, F.po p, F.po q] (.tup [F.po a, F.po r]) := fun d S => by
  rw [show d + (F.k0 + 2) = d + F.k0 + 2 by omega]; exact pdivide_po F h1 h3 h11 d p q a r he hr hz S
theorem Fc.fdeg (h2 : P.fn 2 = some F2) (p : Poly α) : Fnv P 1 2 [F.po p] (.int ((p.len : Int) - 1)) := by
  refine Fnv.of (k := 0) h2 rfl (by decide) (fun _ => rfl) (Exr.ret (Ev.bin (Ev.len (xs := F.encs p.c) (Ev.var rfl)) (Ev.lit _) ?_))
  rw [F.encs_len]
  rfl
theorem Fc.pair_lt (p q : Poly α) (n : Nat) : (D.tup [F.po p, F.po q]).lt n = true := by rw [D.lt, D.lts, D.lts, D.lts, F.po_lt, F.po_lt]; rfl
/-- p p - R q q -/
theorem Fc.fnorm (h1 : P.fn 1 = some F1) (h5 : P.fn 5 = some F5) (h6 : P.fn 6 = some F6) (h7 : P.fn 7 = some F7) (h8 : P.fn 8 = some F8) (h9 : P.fn 9 = some F9) (h208 : P.fn 208 = some F208) (R p q : Poly α)
    (hp : p.len + p.len ≤ 100000) (hq : q.len + q.len ≤ 100000) (hR : R.len + (q * q).len ≤ 100000) (hz : (R * (q * q)).len ≤ 100000) : Fnv P (F.k0 + 4) 208 [F.fo, F.po R, F.po p, F.po q] (F.po (p * p - R * (q * q))) := by
  refine Fnv.of (k := F.k0 + 3) h208 rfl (by decide) (F.po_lt _) (Exr.ret ?_)
  exact Ev.call (F.fsub h1 h5 h6 h7 _ _ hz) (Nat.le_refl _) (.cons (.var rfl) (.cons (Ev.call (F.fmul h1 h8 h9 p p hp) (by omega) (.cons (.var rfl) (.cons (.var rfl) (.cons (.var rfl) .nil))))
    (.cons (Ev.call (F.fmul h1 h8 h9 R (q * q) hR) (by omega) (.cons (.var rfl) (.cons (.var rfl) (.cons (Ev.call (F.fmul h1 h8 h9 q q hq) (by omega) (.cons (.var rfl) (.cons (.var rfl) (.cons (.var rfl) .nil)))) .nil)))) .nil)))
end
end RG
set_option Elab.async false
set_option linter.all false
set_option maxRecDepth 100000
/-! The chain's defs of the program. -/
namespace RG
open PySem Lean.Grind
section
variable {P : Prog} {α : Type} [Field α] [DecidableEq α] (F : Fc P α)
/-- the polynomials' defs stand in the text -/
structure PolyOk (P : Prog) : Prop where
  f1 : P.fn 1 = some F1
  f2 : P.fn 2 = some F2
  f3 : P.fn 3 = some F3
  f5 : P.fn 5 = some F5
  f6 : P.fn 6 = some F6
  f7 : P.fn 7 = some F7
  f8 : P.fn 8 = some F8
  f9 : P.fn 9 = some F9
  f11 : P.fn 11 = some F11
  f12 : P.fn 12 = some F12
variable (H : PolyOk P)
include H
theorem Fc.fquo (h12 : P.fn 12 = some F12) {p q a : Poly α} (he : p = a * q) (hq : 0 < q.len) (hz : p.len + q.len ≤ 100000) : Fnv P (F.k0 + 3) 12 [F.fo, F.po p, F.po q] (F.po a) := by
  have h0 : (0 : Poly α).len < q.len := by rw [Poly.len_0]; exact hq
  refine Fnv.of (k := F.k0 + 2) h12 rfl (by decide) (F.po_lt _) (Exr.ifr (x := false) ?_ (fun z => by cases z) fun _ => Exr.unp (Ev.call (F.fdiv H.f1 H.f3 H.f11 (a := a) (r := 0) (by rw [he]; grind) h0 hz) (Nat.le_refl _) (.cons (.var rfl) (.cons (.var rfl) (.cons (.var rfl) .nil)))) (fun _ => rfl) (Exr.ret (Ev.ite (x := true) ?_ (fun _ => .var rfl) fun z => by cases z)))
  · refine Ev.bin (Ev.len (xs := F.encs q.c) (.var rfl)) (.lit _) ?_
    show some (D.bl (((F.encs q.c).length : Int) == 0)) = _
    rw [F.encs_len]
    have : ((q.c.length : Int) == 0) = false := beq_eq_false_iff_ne.mpr (by unfold Poly.len at hq; omega)
    rw [this]
  · refine Ev.bin (x := F.po (0 : Poly α)) (y := .tup []) (.var rfl) (.tup .nil) ?_
    rw [F.po_zero]
    rfl
def Fc.pr (F : Fc P α) (x : Poly α × Poly α) : D := .tup [F.po x.1, F.po x.2]
omit H in
theorem Fc.pr_lt (x : Poly α × Poly α) (n : Nat) : (F.pr x).lt n = true := F.pair_lt x.1 x.2 n
omit H in
theorem Ev.fst {k : Nat} {ρ : Env} {e : E} {x : Poly α × Poly α} (h : Ev P k e ρ (F.pr x)) : Ev P k (.idx e (.lit (.int 0))) ρ (F.po x.1) := Ev.idx 0 h (.lit _) rfl
omit H in
theorem Ev.snd {k : Nat} {ρ : Env} {e : E} {x : Poly α × Poly α} (h : Ev P k e ρ (F.pr x)) : Ev P k (.idx e (.lit (.int 1))) ρ (F.po x.2) := Ev.idx 1 h (.lit _) rfl
/-- the product of p + q s and p' + q' s -/
def upr (R : Poly α) (x y : Poly α × Poly α) : Poly α × Poly α := (x.1 * y.1 + R * (x.2 * y.2), x.1 * y.2 + x.2 * y.1)
theorem Fc.fupr (h221 : P.fn 221 = some F221) (R : Poly α) (x y : Poly α × Poly α) (h1 : x.1.len + y.1.len ≤ 100000) (h2 : x.2.len + y.2.len ≤ 100000) (h3 : R.len + (x.2 * y.2).len ≤ 100000) (h4 : x.1.len + y.2.len ≤ 100000) (h5 : x.2.len + y.1.len ≤ 100000) :
    Fnv P (F.k0 + 3) 221 [F.fo, F.po R, F.pr x, F.pr y] (F.pr (upr R x y)) := by
  refine Fnv.of (k := F.k0 + 2) h221 rfl (by decide) (F.pr_lt _) (Exr.set (w := F.po (x.1 * y.1 + R * (x.2 * y.2))) ?_ (Exr.ret (.tup (.cons (.var rfl) (.cons ?_ .nil)))))
  · exact .call (F.fadd H.f1 H.f5 _ _) (Nat.le_refl _) (.cons (.var rfl) (.cons (.call (F.fmul H.f1 H.f8 H.f9 _ _ h1) (Nat.le_refl _) (.cons (.var rfl) (.cons (.fst F (.var rfl)) (.cons (.fst F (.var rfl)) .nil))))
      (.cons (.call (F.fmul H.f1 H.f8 H.f9 _ _ h3) (Nat.le_refl _) (.cons (.var rfl) (.cons (.var rfl) (.cons (.call (F.fmul H.f1 H.f8 H.f9 _ _ h2) (Nat.le_refl _) (.cons (.var rfl) (.cons (.snd F (.var rfl)) (.cons (.snd F (.var rfl)) .nil)))) .nil)))) .nil)))
  · exact .call (F.fadd H.f1 H.f5 _ _) (Nat.le_refl _) (.cons (.var rfl) (.cons (.call (F.fmul H.f1 H.f8 H.f9 _ _ h4) (Nat.le_refl _) (.cons (.var rfl) (.cons (.fst F (.var rfl)) (.cons (.snd F (.var rfl)) .nil))))
      (.cons (.call (F.fmul H.f1 H.f8 H.f9 _ _ h5) (Nat.le_refl _) (.cons (.var rfl) (.cons (.snd F (.var rfl)) (.cons (.fst F (.var rfl)) .nil)))) .nil)))
/-- the next fraction -/
def npr (a : Poly α) (now bef : Poly α × Poly α) : Poly α × Poly α := (a * now.1 + bef.1, a * now.2 + bef.2)
theorem Fc.fnpr (h205 : P.fn 205 = some F205) (a : Poly α) (now bef : Poly α × Poly α) (h1 : a.len + now.1.len ≤ 100000) (h2 : a.len + now.2.len ≤ 100000) : Fnv P (F.k0 + 3) 205 [F.fo, F.po a, F.pr now, F.pr bef] (.tup [F.pr (npr a now bef), F.pr now]) := by
  refine Fnv.of (k := F.k0 + 2) h205 rfl (by decide) (fun n => by rw [D.lt, D.lts, D.lts, D.lts, F.pr_lt, F.pr_lt]; rfl) (Exr.set (w := F.po (a * now.1 + bef.1)) ?_ (Exr.set (w := F.po (a * now.2 + bef.2)) ?_ (Exr.ret (.tup (.cons (.tup (.cons (.var rfl) (.cons (.var rfl) .nil))) (.cons (.var rfl) .nil))))))
  · exact .call (F.fadd H.f1 H.f5 _ _) (Nat.le_refl _) (.cons (.var rfl) (.cons (.call (F.fmul H.f1 H.f8 H.f9 _ _ h1) (Nat.le_refl _) (.cons (.var rfl) (.cons (.var rfl) (.cons (.fst F (.var rfl)) .nil)))) (.cons (.fst F (.var rfl)) .nil)))
  · exact .call (F.fadd H.f1 H.f5 _ _) (Nat.le_refl _) (.cons (.var rfl) (.cons (.call (F.fmul H.f1 H.f8 H.f9 _ _ h2) (Nat.le_refl _) (.cons (.var rfl) (.cons (.var rfl) (.cons (.snd F (.var rfl)) .nil)))) (.cons (.snd F (.var rfl)) .nil)))
/-- the next state: a the quotient of P + A by Q, then a Q - P, then what R less its square is of Q -/
theorem Fc.fnext (h204 : P.fn 204 = some F204) (R A Pn Q a r N Q' : Poly α) (he : Pn + A = a * Q + r) (hr : r.len < Q.len) (hN : N = a * Q - Pn) (hQ : R - N * N = Q' * Q) (b1 : (Pn + A).len + Q.len ≤ 100000) (b2 : a.len + Q.len ≤ 100000) (b3 : Pn.len ≤ 100000) (b4 : N.len + N.len ≤ 100000) (b5 : (N * N).len ≤ 100000) (b6 : (R - N * N).len + Q.len ≤ 100000) :
    Fnv P (F.k0 + 4) 204 [F.fo, F.po R, F.po A, F.pr (Pn, Q)] (.tup [F.po a, F.pr (N, Q')]) := by
  subst hN
  refine Fnv.of (k := F.k0 + 3) h204 rfl (by decide) (fun n => by rw [D.lt, D.lts, D.lts, D.lts, F.pr_lt, F.po_lt]; rfl) (Exr.unp (w := F.pr (Pn, Q)) (.var rfl) (fun _ => rfl) (Exr.set (w := F.po a) ?_ (Exr.set (w := F.po (a * Q - Pn)) ?_ (Exr.ret (.tup (.cons (.var rfl) (.cons (.tup (.cons (.var rfl) (.cons ?_ .nil))) .nil)))))))
  · exact .idx 0 (.call (F.fdiv H.f1 H.f3 H.f11 he hr b1) (by omega) (.cons (.var rfl) (.cons (.call (F.fadd H.f1 H.f5 _ _) (by omega) (.cons (.var rfl) (.cons (.var rfl) (.cons (.var rfl) .nil)))) (.cons (.var rfl) .nil)))) (.lit _) rfl
  · exact .call (F.fsub H.f1 H.f5 H.f6 H.f7 _ _ b3) (Nat.le_refl _) (.cons (.var rfl) (.cons (.call (F.fmul H.f1 H.f8 H.f9 _ _ b2) (by omega) (.cons (.var rfl) (.cons (.var rfl) (.cons (.var rfl) .nil)))) (.cons (.var rfl) .nil)))
  · exact .call (F.fquo H H.f12 hQ (by omega) b6) (Nat.le_refl _) (.cons (.var rfl) (.cons (.call (F.fsub H.f1 H.f5 H.f6 H.f7 _ _ b5) (Nat.le_refl _) (.cons (.var rfl) (.cons (.var rfl) (.cons (.call (F.fmul H.f1 H.f8 H.f9 _ _ b4) (by omega) (.cons (.var rfl) (.cons (.var rfl) (.cons (.var rfl) .nil)))) .nil)))) (.cons (.var rfl) .nil)))
end
end RG
set_option Elab.async false
set_option linter.all false
/-! The chain of a root: plain algebra. -/
namespace RG
open Lean.Grind
namespace Poly
variable {α : Type} [Field α] [DecidableEq α]
theorem len_add_of_lt {p q : Poly α} (h : q.len < p.len) : (p + q).len = p.len ∧ (p + q).lc = p.lc := by
  have h1 : co (p + q).c (p.len - 1) = p.lc := by rw [co_add, co_ge (p := q) (by omega)]; show p.lc + 0 = _; grind
  obtain ⟨a, b⟩ := len_eq (p := p + q) (n := p.len - 1) (fun i hi => by rw [co_add, co_ge (p := p) (by omega), co_ge (p := q) (by omega)]; grind) (by rw [h1]; exact lc_ne (by omega))
  exact ⟨by omega, b.trans h1⟩
theorem len_sub_of_lt {p q : Poly α} (h : q.len < p.len) : (p - q).len = p.len ∧ (p - q).lc = p.lc := by
  have e : p - q = p + -q := by grind
  rw [e]
  exact len_add_of_lt (by rw [len_neg]; exact h)
/-- the same length, leading coefficients that do not cancel -/
theorem len_add_eq {p q : Poly α} (h : q.len = p.len) (hp : 0 < p.len) (hl : p.lc + q.lc ≠ 0) : (p + q).len = p.len ∧ (p + q).lc = p.lc + q.lc := by
  have h1 : co (p + q).c (p.len - 1) = p.lc + q.lc := by rw [co_add]; unfold lc; rw [h]
  obtain ⟨a, b⟩ := len_eq (p := p + q) (n := p.len - 1) (fun i hi => by rw [co_add, co_ge (p := p) (by omega), co_ge (p := q) (by omega)]; grind) (by rw [h1]; exact hl)
  exact ⟨by omega, b.trans h1⟩
theorem len_mul_le (p q : Poly α) : (p * q).len ≤ p.len + q.len - 1 := by
  by_cases hp : p = 0
  · rw [hp, show (0 : Poly α) * q = 0 by grind, len_0]; omega
  · by_cases hq : q = 0
    · rw [hq, show p * (0 : Poly α) = 0 by grind, len_0]; omega
    · rw [(len_mul hp hq).1]; omega
theorem lc_C {x : α} (h : x ≠ 0) : (C x).len = 1 ∧ (C x).lc = x := by
  obtain ⟨a, b⟩ := len_eq (p := C x) (n := 0) (fun i hi => by rw [co_C, if_neg (by omega)]) (by rw [co_C, if_pos rfl]; exact h)
  exact ⟨a, by rw [b, co_C, if_pos rfl]⟩
theorem one_lc : (1 : Poly α).len = 1 ∧ (1 : Poly α).lc = 1 := lc_C (fun z => Field.zero_ne_one z.symm)
theorem one_ne : (1 : Poly α) ≠ 0 := fun z => by
  have := one_lc (α := α)
  rw [z, len_0] at this
  omega
theorem ne_of_len {p : Poly α} (h : 0 < p.len) : p ≠ 0 := fun z => by rw [z, len_0] at h; omega
theorem mul_cancel {p q r : Poly α} (hr : r ≠ 0) (h : p * r = q * r) : p = q := by
  have e : (p - q) * r = 0 := by grind
  rcases mul_zero_iff e with z | z
  · grind
  · exact absurd z hr
end Poly
open Poly
variable {α : Type} [Field α] [DecidableEq α]
/-- the whole part of the root -/
structure IsRt (R A : Poly α) (h : Nat) : Prop where
  pos : 0 < h
  len : A.len = h + 1
  lc : A.lc = 1
  low : (R - A * A).len ≤ h
theorem IsRt.unique {R A B : Poly α} {h : Nat} (h2 : (1 : α) + 1 ≠ 0) (a : IsRt R A h) (b : IsRt R B h) : A = B := by
  by_cases hz : A - B = 0
  · grind
  · exfalso
    have e : (A - B) * (A + B) = (R - B * B) - (R - A * A) := by grind
    have hs := len_add_eq (p := A) (q := B) (by rw [a.len, b.len]) (by rw [a.len]; omega) (by rw [a.lc, b.lc]; exact h2)
    have hm := (len_mul hz (ne_of_len (p := A + B) (by rw [hs.1, a.len]; omega))).1
    rw [e] at hm
    have h3 := len_sub_le (R - B * B) (R - A * A)
    have h4 := a.low
    have h5 := b.low
    have h6 := len_pos hz
    rw [hs.1, a.len] at hm
    omega
/-- a state of the chain with the fractions now and before; s the sign; Z the Q before -/
structure Chn (R A : Poly α) (h : Nat) (Pn Q Z s p q p' q' : Poly α) : Prop where
  rt : IsRt R A h
  ns : ∀ N : Poly α, R - N * N ≠ 0
  sg : s * s = 1
  div : R - Pn * Pn = Z * Q
  qn : Q ≠ 0
  nw : p * p - R * (q * q) = s * Q
  mx : p * p' - R * (q * q') = -(s * Pn)
  bf : p' * p' - R * (q' * q') = -(s * Z)
theorem chn_0 {R A : Poly α} {h : Nat} (rt : IsRt R A h) (ns : ∀ N : Poly α, R - N * N ≠ 0) : Chn R A h 0 1 R 1 1 0 0 1 :=
  ⟨rt, ns, by grind, by grind, one_ne, by grind, by grind, by grind⟩
/-- one step -/
theorem Chn.step {R A : Poly α} {h : Nat} {Pn Q Z s p q p' q' a r : Poly α} (c : Chn R A h Pn Q Z s p q p' q') (he : Pn + A = a * Q + r) :
    ∃ Q', R - (a * Q - Pn) * (a * Q - Pn) = Q' * Q ∧ Chn R A h (a * Q - Pn) Q' Q (-s) (a * p + p') (a * q + q') p q := by
  refine ⟨Z - a * a * Q + (a + a) * Pn, ?_, c.rt, c.ns, ?_, ?_, ?_, ?_, ?_, ?_⟩
  · have := c.div; grind
  · have := c.sg; grind
  · have := c.div; grind
  · intro z
    apply c.ns (a * Q - Pn)
    have h1 : R - (a * Q - Pn) * (a * Q - Pn) = (Z - a * a * Q + (a + a) * Pn) * Q := by have := c.div; grind
    rw [h1, z]; grind
  · have h1 := c.nw; have h2 := c.mx; have h3 := c.bf; grind
  · have h1 := c.nw; have h2 := c.mx; grind
  · have h1 := c.nw; grind
/-- behind the first step: degrees -/
structure ChnD (R A : Poly α) (h : Nat) (Pn Q Z s p q p' q' : Poly α) : Prop where
  c : Chn R A h Pn Q Z s p q p' q'
  pl : Pn.len = h + 1
  pc : Pn.lc = 1
  ql : Q.len ≤ h
  len : p.len = q.len + h
  lc : p.lc = q.lc
  q0 : 0 < q.len
  pp : p'.len < p.len
  qq : q'.len < q.len
/-- the rest's part in R - N N -/
theorem low_len {R A r : Poly α} {h : Nat} (rt : IsRt R A h) (hr : r.len ≤ h) : (R - (A - r) * (A - r)).len ≤ max h (r.len + h) ∧ (r = 0 → (R - (A - r) * (A - r)).len ≤ h) := by
  have e : R - (A - r) * (A - r) = (R - A * A) + r * (A + A - r) := by grind
  have h1 := rt.low
  have h2 := len_mul_le r (A + A - r)
  have h3 := len_sub_le (A + A) r
  have h4 := len_add_le A A
  have h5 := rt.len
  have h6 := len_add_le (R - A * A) (r * (A + A - r))
  refine ⟨by rw [e]; omega, fun z => ?_⟩
  subst z
  have : R - (A - 0) * (A - 0) = R - A * A := by grind
  rw [this]
  exact h1
theorem Chn.first {R A : Poly α} {h : Nat} (rt : IsRt R A h) (ns : ∀ N : Poly α, R - N * N ≠ 0) : ∃ Q', R - A * A = Q' * 1 ∧ ChnD R A h A Q' 1 (-1) A 1 1 0 := by
  obtain ⟨Q', h1, c⟩ := (chn_0 rt ns).step (a := A) (r := 0) (by grind)
  have e1 : A * 1 - 0 = A := by grind
  have e2 : A * 1 + 0 = A := by grind
  have e3 : A * 0 + 1 = (1 : Poly α) := by grind
  rw [e1, e2, e3] at c
  rw [e1] at h1
  have ho := one_lc (α := α)
  have hl := rt.len
  have hp := rt.pos
  have hQ : Q' = R - A * A := by grind
  exact ⟨Q', h1, c, hl, rt.lc, by rw [hQ]; exact rt.low, by rw [ho.1, hl]; omega, by rw [rt.lc, ho.2], by rw [ho.1]; omega, by rw [ho.1, hl]; omega, by rw [ho.1, len_0]; omega⟩
theorem ChnD.step {R A : Poly α} {h : Nat} {Pn Q Z s p q p' q' a r : Poly α} (h2 : (1 : α) + 1 ≠ 0) (c : ChnD R A h Pn Q Z s p q p' q') (he : Pn + A = a * Q + r) (hr : r.len < Q.len) :
    ∃ Q', R - (a * Q - Pn) * (a * Q - Pn) = Q' * Q ∧ ChnD R A h (a * Q - Pn) Q' Q (-s) (a * p + p') (a * q + q') p q ∧ (a * p + p').len = a.len + p.len - 1 ∧ 2 ≤ a.len := by
  obtain ⟨Q', hQ, c'⟩ := c.c.step he
  have rt := c.c.rt
  have hAl := rt.len
  have hql := c.ql
  have hpl := c.pl
  have hlen := c.len
  have hq0 := c.q0
  have hpp := c.pp
  have hqq := c.qq
  have hN : a * Q - Pn = A - r := by grind
  have hs := len_add_eq (p := Pn) (q := A) (by rw [hAl, hpl]) (by omega) (by rw [c.pc, rt.lc]; exact h2)
  have haQ : a * Q = Pn + A - r := by grind
  have hs2 := len_sub_of_lt (p := Pn + A) (q := r) (by omega)
  have hQ0 := len_pos c.c.qn
  have ha : a ≠ 0 := fun z => by
    have : a * Q = 0 := by rw [z]; grind
    rw [← haQ, this, len_0] at hs2
    omega
  have hal := (len_mul ha c.c.qn).1
  rw [haQ] at hal
  have hNl := len_sub_of_lt (p := A) (q := r) (by omega)
  have hQ'0 := len_pos c'.qn
  have hQm := (len_mul c'.qn c.c.qn).1
  rw [← hQ, hN] at hQm
  have hlow := low_len rt (r := r) (by omega)
  have hQ'l : Q'.len ≤ h := by
    by_cases hz : r = 0
    · have := hlow.2 hz; omega
    · have := hlow.1
      have := len_pos hz
      omega
  have hp0 : p ≠ 0 := ne_of_len (by omega)
  have hqn : q ≠ 0 := ne_of_len hq0
  have hap := len_mul ha hp0
  have haq := len_mul ha hqn
  have ha2 : 2 ≤ a.len := by omega
  have hnp := len_add_of_lt (p := a * p) (q := p') (by omega)
  have hnq := len_add_of_lt (p := a * q) (q := q') (by omega)
  refine ⟨Q', hQ, ⟨c', by rw [hN, hNl.1, hAl], by rw [hN, hNl.2, rt.lc], hQ'l, by omega, by rw [hnp.2, hnq.2, hap.2, haq.2, c.lc], by omega, by omega, by omega⟩, by omega, ha2⟩
/-- what a unit's powers keep: the same leading coefficients, lengths half apart -/
structure Led (h : Nat) (x : Poly α × Poly α) : Prop where
  len : x.1.len = x.2.len + h
  lc : x.1.lc = x.2.lc
  q0 : 0 < x.2.len
theorem Led.mul {R : Poly α} {h : Nat} (h2 : (1 : α) + 1 ≠ 0) (hR : R.len = 2 * h + 1) (hRc : R.lc = 1) {x y : Poly α × Poly α} (a : Led h x) (b : Led h y) :
    Led h (x.1 * y.1 + R * (x.2 * y.2), x.1 * y.2 + x.2 * y.1) ∧ (x.1 * y.1 + R * (x.2 * y.2)).len = x.1.len + y.1.len - 1 := by
  have a1 := a.len; have a2 := a.lc; have a3 := a.q0
  have b1 := b.len; have b2 := b.lc; have b3 := b.q0
  have x1 : x.1 ≠ 0 := ne_of_len (by omega)
  have x2 : x.2 ≠ 0 := ne_of_len a3
  have y1 : y.1 ≠ 0 := ne_of_len (by omega)
  have y2 : y.2 ≠ 0 := ne_of_len b3
  have hR0 : R ≠ 0 := ne_of_len (by omega)
  have m11 := len_mul x1 y1
  have m22 := len_mul x2 y2
  have m22' : x.2 * y.2 ≠ 0 := ne_of_len (by omega)
  have mR := len_mul hR0 m22'
  have m12 := len_mul x1 y2
  have m21 := len_mul x2 y1
  have hne : x.2.lc * y.2.lc ≠ 0 := mul_ne (lc_ne a3) (lc_ne b3)
  have hsum : x.2.lc * y.2.lc + x.2.lc * y.2.lc ≠ 0 := fun z => by
    have : (x.2.lc * y.2.lc) * (1 + 1) ≠ 0 := mul_ne hne h2
    apply this
    grind
  have s1 := len_add_eq (p := x.1 * y.1) (q := R * (x.2 * y.2)) (by omega) (by omega) (by rw [m11.2, mR.2, m22.2, hRc, a2, b2]; intro z; apply hsum; grind)
  have s2 := len_add_eq (p := x.1 * y.2) (q := x.2 * y.1) (by omega) (by omega) (by rw [m12.2, m21.2, a2, b2]; exact hsum)
  refine ⟨⟨?_, ?_, ?_⟩, by rw [s1.1]; omega⟩
  · show (x.1 * y.1 + R * (x.2 * y.2)).len = (x.1 * y.2 + x.2 * y.1).len + h
    rw [s1.1, s2.1]; omega
  · show (x.1 * y.1 + R * (x.2 * y.2)).lc = (x.1 * y.2 + x.2 * y.1).lc
    rw [s1.2, s2.2, m11.2, mR.2, m22.2, m12.2, m21.2, hRc, a2, b2]; grind
  · show 0 < (x.1 * y.2 + x.2 * y.1).len
    rw [s2.1]; omega
/-- the norm of a product -/
theorem norm_mul (R : Poly α) (x y : Poly α × Poly α) : (x.1 * y.1 + R * (x.2 * y.2)) * (x.1 * y.1 + R * (x.2 * y.2)) - R * ((x.1 * y.2 + x.2 * y.1) * (x.1 * y.2 + x.2 * y.1)) = (x.1 * x.1 - R * (x.2 * x.2)) * (y.1 * y.1 - R * (y.2 * y.2)) := by grind
end RG
set_option Elab.async false
set_option linter.all false
/-! The derivative; no square has a common divisor of length one with its slope. -/
namespace RG
open Lean.Grind
variable {α : Type} [Field α] [DecidableEq α]
/-- n as an element -/
def nat (n : Nat) : α := match n with
  | 0 => 0
  | n + 1 => nat n + 1
/-- the slope of coefficients, the first of them n-th -/
def derL : Nat → List α → List α
  | _, [] => []
  | n, x :: a => nat n * x :: derL (n + 1) a
theorem co_derL : ∀ (n : Nat) (a : List α) (i : Nat), co (derL n a) i = nat (n + i) * co a i
  | n, [], i => by rw [derL, co_nil]; grind
  | n, x :: a, 0 => by rw [derL, co_zero, co_zero, Nat.add_zero]
  | n, x :: a, i + 1 => by rw [derL, co_succ, co_succ, co_derL (n + 1) a i, show n + 1 + i = n + (i + 1) by omega]
/-- x times the slope -/
def xder (a : List α) : List α := derL 0 a
theorem nat_add (i j : Nat) : (nat (i + j) : α) = nat i + nat j := by
  induction j with
  | zero => show nat i = nat i + 0; grind
  | succ j ih =>
    show nat (i + j) + 1 = nat i + (nat j + 1)
    rw [ih]; grind
/-- x times the slope of a product -/
theorem xder_mul : ∀ (n k : Nat) (a b : List α), Eqv (derL (n + k) (mulL a b)) (addL (mulL (derL n a) b) (mulL a (derL k b)))
  | n, k, [], b => fun i => by rw [co_addL]; show co (derL (n + k) []) i = co [] i + co [] i; rw [derL, co_nil]; grind
  | n, k, x :: a, b => fun i => by
    have ih := xder_mul (n + 1) k a b
    rw [co_derL, co_addL, derL, co_mulL_cons, co_mulL_cons, co_mulL_cons, co_derL]
    cases i with
    | zero => rw [co_zero, co_zero, co_zero, Nat.add_zero, Nat.add_zero, nat_add]; grind
    | succ i =>
      rw [co_succ, co_succ, co_succ]
      have h1 := ih i
      rw [co_addL, co_derL] at h1
      have e1 : (nat (n + k + (i + 1)) : α) = nat (n + 1 + k + i) := by congr 1; omega
      have e2 : (nat (n + k + (i + 1)) : α) = nat n + nat (k + (i + 1)) := by rw [← nat_add]; congr 1; omega
      grind
namespace Poly
/-- x times the slope -/
def xd (p : Poly α) : Poly α := of (xder p.c)
theorem co_xd (p : Poly α) (i : Nat) : co (xd p).c i = nat i * co p.c i := by
  unfold xd xder
  rw [co_of, co_derL, Nat.zero_add]
theorem xd_mul (p q : Poly α) : xd (p * q) = xd p * q + p * xd q := ext fun i => by
  rw [co_xd, co_mul, co_add, co_mul, co_mul]
  have h := xder_mul 0 0 p.c q.c i
  rw [co_addL, co_derL, Nat.zero_add] at h
  rw [mulL_congL q.c (a := (xd p).c) (b := derL 0 p.c) (fun j => by rw [co_xd, co_derL, Nat.zero_add]) i, mulL_congR p.c (b := (xd q).c) (c := derL 0 q.c) (fun j => by rw [co_xd, co_derL, Nat.zero_add]) i]
  exact h
/-- the slope -/
def der (p : Poly α) : Poly α := of (derL 1 p.c.tail)
theorem co_tail : ∀ (l : List α) (i : Nat), co l.tail i = co l (i + 1)
  | [], i => by rw [List.tail_nil, co_nil, co_nil]
  | x :: l, i => by rw [List.tail_cons, co_succ]
theorem co_der (p : Poly α) (i : Nat) : co (der p).c i = nat (i + 1) * co p.c (i + 1) := by
  unfold der
  rw [co_of, co_derL, co_tail, show 1 + i = i + 1 by omega]
def X : Poly α := mono 1 1
theorem co_X_mul (p : Poly α) (i : Nat) : co (X * p).c i = match i with
    | 0 => 0
    | i + 1 => co p.c i := by
  have h : Eqv (mulL (X : Poly α).c p.c) (0 :: p.c) := (mulL_congL (a := (X : Poly α).c) (b := [0, 1]) p.c (fun i => by
    show co (mono 1 (1 : α)).c i = _
    rw [co_mono]
    cases i with
    | zero => rw [co_zero]; rfl
    | succ i =>
      rw [co_succ]
      cases i with
      | zero => rw [co_zero]; rfl
      | succ i => rw [co_succ, co_nil, if_neg (by omega)])).trans fun i => by
    rw [co_mulL_cons]
    cases i with
    | zero => rw [co_zero, co_zero]; grind
    | succ i =>
      rw [co_succ, co_succ, co_mulL_cons]
      cases i with
      | zero => rw [co_zero]; grind
      | succ i => rw [co_succ]; show _ + (_ + co [] i) = _; rw [co_nil]; grind
  rw [co_mul, h i]
  cases i with
  | zero => rw [co_zero]
  | succ i => rw [co_succ]
theorem xd_der (p : Poly α) : xd p = X * der p := ext fun i => by
  rw [co_xd, co_X_mul]
  cases i with
  | zero => show nat 0 * _ = 0; show (0 : α) * _ = 0; grind
  | succ i =>
    show _ = co (der p).c i
    rw [co_der]
theorem X_ne : (X : Poly α) ≠ 0 := by
  have := (len_mono (n := 1) (x := (1 : α)) (fun z => Field.zero_ne_one z.symm)).1
  exact ne_of_len (by show 0 < (mono 1 (1 : α)).len; omega)
theorem der_mul (p q : Poly α) : der (p * q) = der p * q + p * der q := by
  refine mul_cancel X_ne ?_
  have h := xd_mul p q
  rw [xd_der, xd_der, xd_der] at h
  grind
end Poly
end RG
set_option Elab.async false
set_option linter.all false
set_option maxRecDepth 100000
/-! The law's own field: m and its defs; its polynomials. -/
namespace RG
open PySem Lean.Grind
/-- the law's defs of one field, m behind it -/
structure Lf (P : Prog) (α : Type) [Field α] [DecidableEq α] where
  mo : D
  enc : α → D
  k0 : Nat
  lt0 : ∀ a n, (enc a).lt n = true
  mlt : ∀ n, mo.lt n = true
  eqb : ∀ a b, binop .eq (enc a) (enc b) = some (.bl (decide (a = b)))
  add : ∀ a b, Fnv P k0 105 [mo, enc a, enc b] (enc (a + b))
  mul : ∀ a b, Fnv P k0 106 [mo, enc a, enc b] (enc (a * b))
  neg : ∀ a, Fnv P k0 107 [mo, enc a] (enc (-a))
  nul : Fnv P k0 108 [mo] (enc 0)
  one : Fnv P k0 210 [mo] (enc 1)
  inv : ∀ a, a ≠ 0 → Fnv P k0 110 [mo, enc a] (enc a⁻¹)
  int : ∀ j : Nat, Fnv P k0 109 [mo, .int (j : Int)] (enc (nat j))
section
variable {P : Prog} {α : Type} [Field α] [DecidableEq α]
def Lf.encs (F : Lf P α) (xs : List α) : List D := xs.map F.enc
theorem Lf.encs_lt (F : Lf P α) (n : Nat) : ∀ xs : List α, D.lts n (F.encs xs) = true
  | [] => by show D.lts n [] = true; rw [D.lts]
  | x :: xs => by
    show D.lts n (F.enc x :: F.encs xs) = true
    rw [D.lts, F.lt0, F.encs_lt n xs]; rfl
def Lf.pl (F : Lf P α) (xs : List α) : D := .tup (F.encs xs)
def Lf.po (F : Lf P α) (p : Poly α) : D := F.pl p.c
theorem Lf.encs_len (F : Lf P α) (xs : List α) : (F.encs xs).length = xs.length := by unfold Lf.encs; simp
theorem Lf.encs_get (F : Lf P α) {xs : List α} {i : Nat} (h : i < xs.length) : (F.encs xs)[i]? = some (F.enc xs[i]) := by
  show (xs.map F.enc)[i]? = _
  rw [List.getElem?_map, List.getElem?_eq_getElem h]; rfl
theorem Lf.encs_set (F : Lf P α) (xs : List α) (i : Nat) (x : α) : (F.encs xs).set i (F.enc x) = F.encs (xs.set i x) := by
  unfold Lf.encs
  rw [List.map_set]
theorem Lf.pl_lt (F : Lf P α) (xs : List α) (n : Nat) : (F.pl xs).lt n = true := by
  show (D.tup _).lt n = true
  rw [D.lt]; exact F.encs_lt n xs
theorem Lf.po_lt (F : Lf P α) (p : Poly α) (n : Nat) : (F.po p).lt n = true := F.pl_lt p.c n
theorem aug_sub {cl : Nat → List D → Store → R D} {ρ : Env} {S S' : Store} {i : Nat} {e : E} {x y : Int} (hx : ρ[i]? = some (some (.int x))) (he : ev P cl e ρ S = ret (.int y) S') : exec P cl (.aug i .sub e) ρ S = some (.nx (ρ.set i (some (.int (x - y)))) S') := by
  rw [exec, hx]
  show stp ρ (ev P cl e ρ S) _ = _
  rw [he, stp_ret]
/-- the zeros behind are left out -/
theorem pcut_run (F : Lf P α) (h1 : P.fn 111 = some F111) (d : Nat) (xs : List α) (v : D) (S : Store) (hi : items S v = some (F.encs xs)) (hl : v = .tup (F.encs xs) ∨ litems S v = some (F.encs xs)) :
    callF P (d + F.k0 + 1) 111 [F.mo, v] S = ret (F.pl (trim xs)) S := by
  rw [call_eq h1 rfl (by decide)]
  have wh : ∀ n, n ≤ xs.length → ∃ m, m ≤ n ∧ trim (xs.take n) = xs.take m ∧ exec P (callF P (d + F.k0)) (.whl (.and (.bin .gt (.var 2) (.lit (.int 0))) (.bin .eq (.idx (.var 1) (.bin .sub (.var 2) (.lit (.int 1)))) (.call 108 (.cons (.var 0) .nil)))) (.cons (.aug 2 .sub (.lit (.int 1))) .nil)) [some F.mo, some v, some (.int (n : Int))] S = some (.nx [some F.mo, some v, some (.int (m : Int))] S) := by
    intro n
    induction n with
    | zero =>
      intro _
      refine ⟨0, Nat.le_refl _, rfl, whl_no ?_⟩
      simp [ev, bnd, ret, binop]
    | succ n ih =>
      intro hn
      have hx : (F.encs xs)[n]? = some (F.enc xs[n]) := F.encs_get (by omega)
      have hidx : ev P (callF P (d + F.k0)) (.idx (.var 1) (.bin .sub (.var 2) (.lit (.int 1)))) [some F.mo, some v, some (.int ((n + 1 : Nat) : Int))] S = ret (F.enc xs[n]) S :=
        idx_run (j := n) (ev_var rfl) (by
          have := sub_nat (P := P) (cl := callF P (d + F.k0)) (ρ := [some F.mo, some v, some (.int ((n + 1 : Nat) : Int))]) (S := S) (a := .var 2) (i := n + 1) (z := 1) 1 rfl (by omega) (ev_var rfl)
          rwa [Nat.add_sub_cancel] at this) hi hx
      have hz : ev P (callF P (d + F.k0)) (.bin .eq (.idx (.var 1) (.bin .sub (.var 2) (.lit (.int 1)))) (.call 108 (.cons (.var 0) .nil))) [some F.mo, some v, some (.int ((n + 1 : Nat) : Int))] S = ret (.bl (decide (xs[n] = 0))) S := by
        rw [ev, hidx, bnd_ret, call1 (x := F.mo) (ev_var rfl), F.nul d S, bnd_ret, F.eqb]
        rfl
      have hg : ev P (callF P (d + F.k0)) (.bin .gt (.var 2) (.lit (.int 0))) [some F.mo, some v, some (.int ((n + 1 : Nat) : Int))] S = ret (.bl true) S := by
        have e0 : (0 : Int) < ((n + 1 : Nat) : Int) := by omega
        rw [ev, ev_var (d := .int ((n + 1 : Nat) : Int)) rfl, bnd_ret, ev, bnd_ret]
        show (ret (D.bl (decide ((0 : Int) < ((n + 1 : Nat) : Int)))) S : R D) = _
        rw [_root_.decide_eq_true e0]
      have hc := and_run hg hz
      rw [Bool.true_and] at hc
      have htk : xs.take (n + 1) = xs.take n ++ [xs[n]] := by
        rw [List.take_add_one, List.getElem?_eq_getElem (by omega)]; rfl
      by_cases h0 : xs[n] = 0
      · obtain ⟨m, hm, ht, he⟩ := ih (by omega)
        refine ⟨m, by omega, by rw [htk, h0, trim_snoc0]; exact ht, ?_⟩
        rw [_root_.decide_eq_true h0] at hc
        rw [whl_nx (ρ' := [some F.mo, some v, some (.int (n : Int))]) (S' := S) hc ?_]
        · exact he
        · rw [execs_cons, aug_sub (x := ((n + 1 : Nat) : Int)) (y := 1) rfl (by rw [ev]), sq_nx, execs]
          have e : ((n + 1 : Nat) : Int) - 1 = (n : Int) := by omega
          rw [e]
          rfl
      · refine ⟨n + 1, Nat.le_refl _, by rw [htk, trim_snoc h0], ?_⟩
        rw [_root_.decide_eq_false h0] at hc
        exact whl_no hc
  obtain ⟨m, hm, ht, he⟩ := wh xs.length (Nat.le_refl _)
  rw [List.take_length] at ht
  rw [B111, execs_cons]
  have s1 : exec P (callF P (d + F.k0)) (.set 2 (.bi .len (.cons (.var 1) .nil))) ([F.mo, v].map some ++ List.replicate (3 - 2) none) S = some (.nx [some F.mo, some v, some (.int (xs.length : Int))] S) := by
    have : (F.encs xs).length = xs.length := F.encs_len xs
    simp [exec, ev, evs, bnd, ret, stp, biop, hi, this]
  rw [s1, sq_nx, execs_cons, he, sq_nx]
  have hcut : cut (F.encs xs) none (some (m : Int)) = F.encs (xs.take m) := by
    unfold cut sIx
    dsimp only
    rw [if_neg (by omega)]
    simp only [F.encs_len, Int.toNat_natCast, List.drop_zero, Nat.sub_zero]
    unfold Lf.encs
    rw [← List.map_take, Nat.min_eq_left hm]
  have hsl : slice S v none (some (m : Int)) = some (.tup (F.encs (xs.take m))) ∨ slice S v none (some (m : Int)) = some (.lst (F.encs (xs.take m))) := by
    rcases hl with rfl | hl
    · exact .inl (by show some (D.tup (cut (F.encs xs) none (some (m : Int)))) = _; rw [hcut])
    · right
      have hs : slice S v none (some (m : Int)) = (litems S v).map fun xs => .lst (cut xs none (some (m : Int))) := by
        cases v <;> first | rfl | cases hl
      rw [hs, hl, Option.map_some, hcut]
  have s3 : ev P (callF P (d + F.k0)) (.bi .tuple (.cons (.slc (.var 1) none (some ()) .bad (.var 2)) .nil)) [some F.mo, some v, some (.int (m : Int))] S = ret (F.pl (xs.take m)) S := by
    rcases hsl with hsl | hsl <;> simp [exec, ev, evs, bnd, ret, stp, biop, hsl, items, Lf.pl]
  rw [ret_run s3, fin_rt (F.pl_lt _ _), List.take_length, ht]
end
end RG
set_option Elab.async false
set_option linter.all false
set_option maxRecDepth 100000
/-! The law's polynomials. -/
namespace RG
open PySem Lean.Grind
def EvL (P : Prog) (k : Nat) (l : L) (ρ : Env) (xs : List D) : Prop := ∀ (d : Nat) (S : Store), evL P (callF P (d + k)) l ρ S = ret xs S
def EvI (P : Prog) (k : Nat) (it : It) (ρ : Env) (xs : List D) : Prop := ∀ (d : Nat) (S : Store), evIt P (callF P (d + k)) it ρ S = ret (xs, none) S
section
variable {P : Prog} {k : Nat} {ρ : Env}
theorem Ev.frz {l : L} {xs : List D} (h : EvL P k l ρ xs) : Ev P k (.frz l) ρ (.lst xs) := fun d S => by rw [ev, h, bnd_ret]
theorem EvL.ofs {e : E} {xs : List D} (h : Ev P k e ρ (.tup xs)) : EvL P k (.ofs e) ρ xs := fun d S => ofs_run (h d S) rfl
theorem EvL.rep {a b : E} {x : D} {n : Nat} (ha : Ev P k a ρ x) (hb : Ev P k b ρ (.int (n : Int))) (hn : n ≤ 100000) : EvL P k (.rep (.frz (.disp (.cons a .nil))) b) ρ (List.replicate n x) := fun d S => rep_run (ha d S) (hb d S) hn
theorem EvL.cat {a b : E} {xs ys : List D} (ha : Ev P k a ρ (.lst xs)) (hb : Ev P k b ρ (.lst ys)) (hn : xs.length + ys.length ≤ 100000) : EvL P k (.cat a b) ρ (xs ++ ys) := fun d S => by
  rw [evL, ha, bnd_ret, hb, bnd_ret]
  show (if xs.length + ys.length ≤ 100000 then ret (xs ++ ys) S else none) = _
  rw [if_pos hn]
theorem EvL.comp {own : List Nat} {tg : Tg} {it : It} {elt : E} {xs ys : List D} (hit : EvI P k it ρ xs) (hl : ys.length = xs.length) (hz : xs.length ≤ 100000)
    (h : ∀ (i : Nat) (x : D), xs[i]? = some x → ∃ ρ2 y, (∀ S, bind S tg x (wipe ρ own) = some ρ2) ∧ Ev P k elt ρ2 y ∧ ys[i]? = some y) : EvL P k (.comp own tg it (.lit (.bl true)) elt) ρ ys := fun d S =>
  comp_map (g := none) (hit d S) rfl hl hz fun i x hx => let ⟨ρ2, y, h1, h2, h3⟩ := h i x hx; ⟨ρ2, y, h1 S, h2 d S, h3⟩
theorem EvI.rng {b : E} {n : Nat} (hb : Ev P k b ρ (.int (n : Int))) (hn : n ≤ 1000000) : EvI P k (.rng (.lit (.int 0)) b 1) ρ ((List.range n).map fun (j : Nat) => D.int (j : Int)) := fun d S => rngU_run (hb d S) hn
theorem EvI.seq {e : E} {xs : List D} (h : Ev P k e ρ (.tup xs)) : EvI P k (.seq e) ρ xs := fun d S => seq_run (h d S)
theorem Ev.tupleL {l : L} {xs : List D} (h : EvL P k l ρ xs) : Ev P k (.bi .tuple (.cons (.frz l) .nil)) ρ (.tup xs) := fun d S => tuple_lst (h d S)
theorem Ev.max {a b : E} {x y : Int} (ha : Ev P k a ρ (.int x)) (hb : Ev P k b ρ (.int y)) : Ev P k (.bi .max (.cons a (.cons b .nil))) ρ (.int (max x y)) := fun d S => by
  rw [ev, evs, ha, bnd_ret, evs, hb, bnd_ret, evs, bnd_ret, bnd_ret, bnd_ret]
  rfl
theorem Ev.idxL {a b : E} {xs : List D} {x : D} (j : Nat) (ha : Ev P k a ρ (.lst xs)) (hb : Ev P k b ρ (.int (j : Int))) (hx : xs[j]? = some x) : Ev P k (.idx a b) ρ x := fun d S => idx_run (ha d S) (hb d S) rfl hx
end
section
variable {P : Prog} {α : Type} [Field α] [DecidableEq α] (F : Lf P α)
theorem Lf.fcutL (h1 : P.fn 111 = some F111) (xs : List α) : Fnv P (F.k0 + 1) 111 [F.mo, .lst (F.encs xs)] (F.pl (trim xs)) := fun d S => by
  rw [show d + (F.k0 + 1) = d + F.k0 + 1 by omega]
  exact pcut_run F h1 d xs (.lst (F.encs xs)) S rfl (.inr rfl)
theorem co_pad (xs : List α) (n j : Nat) : co (xs ++ List.replicate n 0) j = co xs j := by
  unfold co
  rw [List.getD_eq_getElem?_getD, List.getD_eq_getElem?_getD]
  by_cases h : j < xs.length
  · rw [List.getElem?_append_left h]
  · rw [List.getElem?_append_right (by omega), List.getElem?_eq_none (by omega : xs.length ≤ j), List.getElem?_replicate]
    split <;> rfl
theorem Lf.encs_pad (xs : List α) (n : Nat) : F.encs xs ++ List.replicate n (F.enc 0) = F.encs (xs ++ List.replicate n 0) := by
  unfold Lf.encs
  rw [List.map_append, List.map_replicate]
/-- the coefficients of a function -/
def tab (n : Nat) (f : Nat → α) : List α := (List.range n).map f
theorem co_tab (n : Nat) (f : Nat → α) (j : Nat) : co (tab n f) j = if j < n then f j else 0 := by
  unfold co tab
  rw [List.getD_eq_getElem?_getD, List.getElem?_map]
  by_cases h : j < n
  · rw [List.getElem?_range h, if_pos h]; rfl
  · rw [List.getElem?_eq_none (by rw [List.length_range]; omega), if_neg h]; rfl
theorem Lf.fadd (h1 : P.fn 111 = some F111) (h2 : P.fn 112 = some F112) (p q : Poly α) (hz : p.len + q.len ≤ 50000) : Fnv P (F.k0 + 2) 112 [F.mo, F.po p, F.po q] (F.po (p + q)) := by
  have key : Exr P (F.k0 + 1) B112 ([F.mo, F.po p, F.po q].map some ++ List.replicate (7 - 3) none) (F.po (p + q)) := by
    have hsz : ∀ (x y : Nat), max (x : Int) (y : Int) = ((max x y : Nat) : Int) := fun x y => by omega
    have lp : Ev P (F.k0 + 1) (.bi .len (.cons (.var 1) .nil)) ([F.mo, F.po p, F.po q].map some ++ List.replicate (7 - 3) none) (.int (p.len : Int)) := by
      have := Ev.len (P := P) (k := F.k0 + 1) (ρ := [F.mo, F.po p, F.po q].map some ++ List.replicate (7 - 3) none) (e := .var 1) (xs := F.encs p.c) (.var rfl)
      rwa [F.encs_len] at this
    have lq : Ev P (F.k0 + 1) (.bi .len (.cons (.var 2) .nil)) ([F.mo, F.po p, F.po q].map some ++ List.replicate (7 - 3) none) (.int (q.len : Int)) := by
      have := Ev.len (P := P) (k := F.k0 + 1) (ρ := [F.mo, F.po p, F.po q].map some ++ List.replicate (7 - 3) none) (e := .var 2) (xs := F.encs q.c) (.var rfl)
      rwa [F.encs_len] at this
    have m1 := Ev.max lp lq
    rw [hsz] at m1
    refine Exr.set m1 ?_
    generalize hn : max p.len q.len = n
    have hset : ([F.mo, F.po p, F.po q].map some ++ List.replicate (7 - 3) none).set 3 (some (.int (n : Int))) = [some F.mo, some (F.po p), some (F.po q), some (.int (n : Int)), none, none, none] := rfl
    rw [hset]
    have pad : ∀ (i : Nat) (r : Poly α), r.len ≤ n → ([some F.mo, some (F.po p), some (F.po q), some (.int (n : Int)), none, none, none] : Env)[i]? = some (some (F.po r)) → Ev P (F.k0 + 1) (.frz (.cat (.frz (.ofs (.var i))) (.frz (.rep (.frz (.disp (.cons (.call 108 (.cons (.var 0) .nil)) .nil))) (.bin .sub (.var 3) (.bi .len (.cons (.var i) .nil))))))) [some F.mo, some (F.po p), some (F.po q), some (.int (n : Int)), none, none, none] (.lst (F.encs (r.c ++ List.replicate (n - r.len) 0))) := fun i r hr hi => by
      rw [← F.encs_pad]
      refine .frz (.cat (.frz (.ofs (.var hi))) (.frz (.rep (.call F.nul (by omega) (.cons (.var rfl) .nil)) ?_ (by omega))) (by rw [F.encs_len, List.length_replicate]; show r.len + _ ≤ _; omega))
      have lr := Ev.len (P := P) (k := F.k0 + 1) (ρ := [some F.mo, some (F.po p), some (F.po q), some (.int (n : Int)), none, none, none]) (e := .var i) (xs := F.encs r.c) (.var hi)
      rw [F.encs_len] at lr
      refine Ev.bin (.var rfl) lr ?_
      show some (D.int ((n : Int) - (r.len : Int))) = _
      congr 2
      omega
    refine Exr.unp (w := .tup [.lst (F.encs (p.c ++ List.replicate (n - p.len) 0)), .lst (F.encs (q.c ++ List.replicate (n - q.len) 0))]) (.tup (.cons (pad 1 p (by omega) rfl) (.cons (pad 2 q (by omega) rfl) .nil))) (fun _ => rfl) (Exr.ret ?_)
    have e : (p + q).c = trim (tab n fun j => co p.c j + co q.c j) := by
      rw [← (p + q).nm]
      refine trim_ext fun j => ?_
      rw [Poly.co_add, co_tab]
      by_cases hj : j < n
      · rw [if_pos hj]
      · rw [if_neg hj, Poly.co_ge (p := p) (by omega), Poly.co_ge (p := q) (by omega)]; grind
    show Ev P _ _ _ (F.pl (p + q).c)
    rw [e]
    refine .call (F.fcutL h1 _) (Nat.le_refl _) (.cons (.var rfl) (.cons (.frz (EvL.comp (EvI.rng (n := n) (.var rfl) (by omega)) (by rw [F.encs_len]; simp [tab]) (by simp; omega) fun i x hx => ?_)) .nil))
    obtain ⟨hi, rfl⟩ := range_get hx
    have l1 : i < (p.c ++ List.replicate (n - p.len) (0 : α)).length := by rw [List.length_append, List.length_replicate]; show i < p.len + _; omega
    have l2 : i < (q.c ++ List.replicate (n - q.len) (0 : α)).length := by rw [List.length_append, List.length_replicate]; show i < q.len + _; omega
    refine ⟨_, F.enc (co p.c i + co q.c i), fun _ => rfl, .call (F.add _ _) (by omega) (.cons (.var rfl) (.cons (.idxL i (.var rfl) (.var rfl) ?_) (.cons (.idxL i (.var rfl) (.var rfl) ?_) .nil))), ?_⟩
    · rw [F.encs_get l1, co_get l1, co_pad]
    · rw [F.encs_get l2, co_get l2, co_pad]
    · have l3 : i < (tab n fun j => co p.c j + co q.c j).length := by simp [tab]; exact hi
      rw [F.encs_get l3, co_get l3, co_tab, if_pos hi]
  intro d S
  obtain ⟨S', e, t⟩ := key d S
  rw [show d + (F.k0 + 2) = d + (F.k0 + 1) + 1 by omega, call_eq h2 rfl (by decide), e, fin_rt (F.po_lt _ _), t]
theorem Lf.fnegp (h : P.fn 113 = some F113) (p : Poly α) (hz : p.len ≤ 100000) : Fnv P (F.k0 + 1) 113 [F.mo, F.po p] (F.po (-p)) := by
  have e : (-p).c = p.c.map fun x => -x := by
    have h1 : trim (p.c.map fun x => -x) = (-p).c := by
      rw [← (-p).nm]
      exact trim_ext fun i => by rw [Poly.co_neg, co_neg_map]
    rw [← h1]
    refine trim_of_last fun hne => ?_
    have hp : p.c ≠ [] := fun z => hne (by rw [z]; rfl)
    have := trim_last p.nm hp
    rw [List.length_map, co_neg_map]
    grind
  have hl : (-p).c.length = p.c.length := by rw [e, List.length_map]
  refine Fnv.of h rfl (by decide) (F.po_lt _) (Exr.ret (.tupleL (EvL.comp (EvI.seq (xs := F.encs p.c) (.var rfl)) (by rw [F.encs_len, F.encs_len, hl]) (by rw [F.encs_len]; exact hz) fun i x hx => ?_)))
  have hi : i < p.c.length := by
    have := (List.getElem?_eq_some_iff.mp hx).1
    rwa [F.encs_len] at this
  rw [F.encs_get hi] at hx
  cases hx
  refine ⟨_, F.enc (-p.c[i]), fun _ => rfl, .call (F.neg _) (Nat.le_refl _) (.cons (.var rfl) (.cons (.var rfl) .nil)), ?_⟩
  rw [F.encs_get (by rw [hl]; exact hi)]
  congr 2
  rw [co_get, co_get hi, Poly.co_neg]
theorem Lf.fsub (h1 : P.fn 111 = some F111) (h2 : P.fn 112 = some F112) (h3 : P.fn 113 = some F113) (h4 : P.fn 114 = some F114) (p q : Poly α) (hz : p.len + q.len ≤ 50000) : Fnv P (F.k0 + 3) 114 [F.mo, F.po p, F.po q] (F.po (p - q)) := by
  have e : p - q = p + -q := by grind
  rw [e]
  exact Fnv.of (k := F.k0 + 2) h4 rfl (by decide) (F.po_lt _) (Exr.ret (.call (F.fadd h1 h2 p (-q) (by rw [Poly.len_neg]; exact hz)) (Nat.le_refl _) (.cons (.var rfl) (.cons (.var rfl) (.cons (.call (F.fnegp h3 q (by omega)) (by omega) (.cons (.var rfl) (.cons (.var rfl) .nil))) .nil)))))
theorem Lf.fscale (h1 : P.fn 111 = some F111) (h2 : P.fn 116 = some F116) (p : Poly α) (c : α) (hz : p.len ≤ 100000) : Fnv P (F.k0 + 2) 116 [F.mo, F.po p, F.enc c] (F.po (Poly.C c * p)) := by
  have e : (Poly.C c * p).c = trim (p.c.map fun x => x * c) := by
    rw [← (Poly.C c * p).nm]
    refine trim_ext fun i => ?_
    rw [Poly.mul_C, co_map _ (by grind)]; grind
  refine Fnv.of (k := F.k0 + 1) h2 rfl (by decide) (F.po_lt _) (Exr.ret ?_)
  show Ev P _ _ _ (F.pl (Poly.C c * p).c)
  rw [e]
  refine .call (F.fcutL h1 _) (Nat.le_refl _) (.cons (.var rfl) (.cons (.frz (EvL.comp (EvI.seq (xs := F.encs p.c) (.var rfl)) (by rw [F.encs_len, F.encs_len, List.length_map]) (by rw [F.encs_len]; exact hz) fun i x hx => ?_)) .nil))
  have hi : i < p.c.length := by
    have := (List.getElem?_eq_some_iff.mp hx).1
    rwa [F.encs_len] at this
  rw [F.encs_get hi] at hx
  cases hx
  refine ⟨_, F.enc (p.c[i] * c), fun _ => rfl, .call (F.mul _ _) (by omega) (.cons (.var rfl) (.cons (.var rfl) (.cons (.var rfl) .nil))), ?_⟩
  rw [F.encs_get (by rw [List.length_map]; exact hi)]
  simp
end
end RG
set_option Elab.async false
set_option linter.all false
set_option maxRecDepth 100000
/-! The law's products. -/
namespace RG
open PySem Lean.Grind
section
variable {P : Prog} {α : Type} [Field α] [DecidableEq α] (F : Lf P α) {k : Nat} (hk : F.k0 ≤ k)
include hk
omit hk F in
theorem co_rep' (n j : Nat) : co (List.replicate n (0 : α)) j = 0 := by
  unfold co
  rw [List.getD_eq_getElem?_getD, List.getElem?_replicate]
  split <;> rfl
theorem Lf.e_add {ρ : Env} {S : Store} {d : Nat} {x y z : E} {a b : α} (hx : ev P (callF P (d + k)) x ρ S = ret F.mo S) (hy : ev P (callF P (d + k)) y ρ S = ret (F.enc a) S) (hz : ev P (callF P (d + k)) z ρ S = ret (F.enc b) S) : ev P (callF P (d + k)) (.call 105 (.cons x (.cons y (.cons z .nil)))) ρ S = ret (F.enc (a + b)) S := by
  rw [call3 hx hy hz]; exact (F.add a b).up hk d S
theorem Lf.e_mul {ρ : Env} {S : Store} {d : Nat} {x y z : E} {a b : α} (hx : ev P (callF P (d + k)) x ρ S = ret F.mo S) (hy : ev P (callF P (d + k)) y ρ S = ret (F.enc a) S) (hz : ev P (callF P (d + k)) z ρ S = ret (F.enc b) S) : ev P (callF P (d + k)) (.call 106 (.cons x (.cons y (.cons z .nil)))) ρ S = ret (F.enc (a * b)) S := by
  rw [call3 hx hy hz]; exact (F.mul a b).up hk d S
theorem Lf.e_neg {ρ : Env} {S : Store} {d : Nat} {x y : E} {a : α} (hx : ev P (callF P (d + k)) x ρ S = ret F.mo S) (hy : ev P (callF P (d + k)) y ρ S = ret (F.enc a) S) : ev P (callF P (d + k)) (.call 107 (.cons x (.cons y .nil))) ρ S = ret (F.enc (-a)) S := by
  rw [call2 hx hy]; exact (F.neg a).up hk d S
theorem Lf.e_nul {ρ : Env} {S : Store} {d : Nat} {x : E} (hx : ev P (callF P (d + k)) x ρ S = ret F.mo S) : ev P (callF P (d + k)) (.call 108 (.cons x .nil)) ρ S = ret (F.enc 0) S := by
  rw [call1 hx]; exact F.nul.up hk d S
def lmulIn : Ss := .cons (.sub (.var 3) (.bin .add (.var 4) (.var 5)) (.call 105 (.cons (.var 0) (.cons (.idx (.var 3) (.bin .add (.var 4) (.var 5))) (.cons (.call 106 (.cons (.var 0) (.cons (.idx (.var 1) (.var 4)) (.cons (.idx (.var 2) (.var 5)) .nil)))) .nil))))) .nil
def lmulOut : Ss := .cons (.for_ (.name 5) (.rng (.lit (.int 0)) (.bi .len (.cons (.var 2) .nil)) 1) lmulIn) .nil
theorem lmul_in1 (d : Nat) {S : Store} {zs xs ys : List α} {i j : Nat} (hi : i < xs.length) (hj : j < ys.length) (hz : i + j < zs.length) :
    execs P (callF P (d + k)) lmulIn [some F.mo, some (F.pl xs), some (F.pl ys), some (.ref S.length), some (.int (i : Int)), some (.int (j : Int))] (S ++ [.lst (F.encs zs)]) = some (.nx [some F.mo, some (F.pl xs), some (F.pl ys), some (.ref S.length), some (.int (i : Int)), some (.int (j : Int))] (S ++ [.lst (F.encs (zs.set (i + j) (co zs (i + j) + co xs i * co ys j)))])) := by
  generalize hρ : ([some F.mo, some (F.pl xs), some (F.pl ys), some (.ref S.length), some (.int (i : Int)), some (.int (j : Int))] : Env) = ρ
  have v (n : Nat) (w : D) (h : ρ[n]? = some (some w)) : ev P (callF P (d + k)) (.var n) ρ (S ++ [.lst (F.encs zs)]) = ret w (S ++ [.lst (F.encs zs)]) := ev_var h
  have h0 := v 0 F.mo (by rw [← hρ]; rfl)
  have h1 := v 1 (F.pl xs) (by rw [← hρ]; rfl)
  have h2 := v 2 (F.pl ys) (by rw [← hρ]; rfl)
  have h3 := v 3 (.ref S.length) (by rw [← hρ]; rfl)
  have h4 := v 4 (.int (i : Int)) (by rw [← hρ]; rfl)
  have h5 := v 5 (.int (j : Int)) (by rw [← hρ]; rfl)
  have h45 := add_nat h4 h5
  have hx := idx_run h1 h4 (xs := F.encs xs) rfl (F.encs_get hi)
  have hy := idx_run h2 h5 (xs := F.encs ys) rfl (F.encs_get hj)
  have hm := F.e_mul hk h0 hx hy
  have hz' := idx_run h3 h45 (items_cell S _) (F.encs_get hz)
  have ha := F.e_add hk h0 hz' hm
  unfold lmulIn
  rw [execs_cons, sub_run ha h3 h45 (by rw [F.encs_len]; exact hz) (F.lt0 _ _), sq_nx, execs, F.encs_set, co_get hz, co_get hi, co_get hj]
theorem lmul_in (d : Nat) {S : Store} {zs xs ys : List α} {i : Nat} {v5 : Option D} (hi : i < xs.length) (hz : i + ys.length ≤ zs.length) (hy : ys.length ≤ 100000) : ∃ w5 zs', zs'.length = zs.length ∧ (∀ j, co zs' j = co zs j + if i ≤ j then co xs i * co ys (j - i) else 0) ∧
    execs P (callF P (d + k)) lmulOut [some F.mo, some (F.pl xs), some (F.pl ys), some (.ref S.length), some (.int (i : Int)), v5] (S ++ [.lst (F.encs zs)]) = some (.nx [some F.mo, some (F.pl xs), some (F.pl ys), some (.ref S.length), some (.int (i : Int)), w5] (S ++ [.lst (F.encs zs')])) := by
  have l2 : ev P (callF P (d + k)) (.bi .len (.cons (.var 2) .nil)) [some F.mo, some (F.pl xs), some (F.pl ys), some (.ref S.length), some (.int (i : Int)), v5] (S ++ [.lst (F.encs zs)]) = ret (.int (ys.length : Int)) (S ++ [.lst (F.encs zs)]) := by
    have := len_run (P := P) (cl := callF P (d + k)) (ρ := [some F.mo, some (F.pl xs), some (F.pl ys), some (.ref S.length), some (.int (i : Int)), v5]) (S := S ++ [.lst (F.encs zs)]) (e := .var 2) (xs := F.encs ys) (ev_var rfl)
    rwa [F.encs_len] at this
  obtain ⟨ρ', S', e, w5, zs', rfl, rfl, hl, hc⟩ := forGo_inv (t := .name 5) (g := none) (body := fun ρ S => execs P (callF P (d + k)) lmulIn ρ S) (xs := (List.range ys.length).map fun (k : Nat) => D.int (k : Int))
    (fun n ρ St => ∃ w5 zs', ρ = [some F.mo, some (F.pl xs), some (F.pl ys), some (.ref S.length), some (.int (i : Int)), w5] ∧ St = S ++ [.lst (F.encs zs')] ∧ zs'.length = zs.length ∧ ∀ j, co zs' j = co zs j + if i ≤ j ∧ j < i + n then co xs i * co ys (j - i) else 0)
    (ρ := [some F.mo, some (F.pl xs), some (F.pl ys), some (.ref S.length), some (.int (i : Int)), v5]) (S := S ++ [.lst (F.encs zs)]) ⟨v5, zs, rfl, rfl, rfl, fun j => by rw [if_neg (by omega)]; grind⟩ (by
      rintro n z ρ St hx ⟨w5, zs', rfl, rfl, hl, hc⟩
      obtain ⟨hn, rfl⟩ := range_get hx
      have hin : i + n < zs'.length := by omega
      refine ⟨[some F.mo, some (F.pl xs), some (F.pl ys), some (.ref S.length), some (.int (i : Int)), some (.int (n : Int))], _, _, rfl, .inl (lmul_in1 F hk d hi hn hin), rfl, _, _, rfl, rfl, by rw [List.length_set]; exact hl, fun j => ?_⟩
      rw [co_set hin]
      by_cases hj : j = i + n
      · subst hj
        rw [if_pos rfl, hc, if_neg (by omega), if_pos (by omega), Nat.add_sub_cancel_left]; grind
      · rw [if_neg hj, hc]
        by_cases h2 : i ≤ j ∧ j < i + n
        · rw [if_pos h2, if_pos (by omega)]
        · rw [if_neg h2, if_neg (by omega)])
  refine ⟨w5, zs', hl, fun j => ?_, ?_⟩
  · have hll : ((List.range ys.length).map fun (k : Nat) => D.int (k : Int)).length = ys.length := by simp
    rw [hll] at hc
    rw [hc]
    by_cases h1 : i ≤ j
    · rw [if_pos h1]
      by_cases h2 : j < i + ys.length
      · rw [if_pos ⟨h1, h2⟩]
      · rw [if_neg (by omega), co_out (l := ys) (by omega)]; grind
    · rw [if_neg h1, if_neg (by omega)]
  · unfold lmulOut
    rw [execs_cons, for_run (rngU_run l2 (by omega)), e, sq_nx, execs]
theorem lmul_out (d : Nat) {S : Store} {xs ys : List α} {N : Nat} (hN : xs.length + ys.length ≤ N + 1) (hx : xs.length ≤ 100000) (hy : ys.length ≤ 100000) (v4 v5 : Option D) : ∃ ρ' zs, zs.length = N ∧ (∀ j, co zs j = co (mulL xs ys) j) ∧
    exec P (callF P (d + k)) (.for_ (.name 4) (.rng (.lit (.int 0)) (.bi .len (.cons (.var 1) .nil)) 1) lmulOut) [some F.mo, some (F.pl xs), some (F.pl ys), some (.ref S.length), v4, v5] (S ++ [.lst (F.encs (List.replicate N 0))]) = some (.nx ρ' (S ++ [.lst (F.encs zs)])) ∧ ∃ w4 w5, ρ' = [some F.mo, some (F.pl xs), some (F.pl ys), some (.ref S.length), w4, w5] := by
  have l1 : ev P (callF P (d + k)) (.bi .len (.cons (.var 1) .nil)) [some F.mo, some (F.pl xs), some (F.pl ys), some (.ref S.length), v4, v5] (S ++ [.lst (F.encs (List.replicate N 0))]) = ret (.int (xs.length : Int)) (S ++ [.lst (F.encs (List.replicate N 0))]) := by
    have := len_run (P := P) (cl := callF P (d + k)) (ρ := [some F.mo, some (F.pl xs), some (F.pl ys), some (.ref S.length), v4, v5]) (S := S ++ [.lst (F.encs (List.replicate N 0))]) (e := .var 1) (xs := F.encs xs) (ev_var rfl)
    rwa [F.encs_len] at this
  rw [for_run (rngU_run l1 (by omega))]
  obtain ⟨ρ', S', e, w4, w5, zs', rfl, rfl, hl, hc⟩ := forGo_inv (t := .name 4) (g := none) (body := fun ρ S => execs P (callF P (d + k)) lmulOut ρ S) (xs := (List.range xs.length).map fun (k : Nat) => D.int (k : Int))
    (fun i ρ St => ∃ w4 w5 zs', ρ = [some F.mo, some (F.pl xs), some (F.pl ys), some (.ref S.length), w4, w5] ∧ St = S ++ [.lst (F.encs zs')] ∧ zs'.length = N ∧ ∀ j, co zs' j = co (mulL (xs.take i) ys) j)
    (ρ := [some F.mo, some (F.pl xs), some (F.pl ys), some (.ref S.length), v4, v5]) (S := S ++ [.lst (F.encs (List.replicate N 0))]) ⟨v4, v5, _, rfl, rfl, List.length_replicate, fun j => by
      show _ = co [] j
      rw [co_nil, co_rep']⟩ (by
      rintro i z ρ St hz ⟨w4, w5, zs', rfl, rfl, hl, hc⟩
      obtain ⟨hi, rfl⟩ := range_get hz
      obtain ⟨u5, zs2, hl2, hc2, e2⟩ := lmul_in F hk d (S := S) (zs := zs') (xs := xs) (ys := ys) (i := i) (v5 := w5) hi (by omega) hy
      have htk : xs.take (i + 1) = xs.take i ++ [xs[i]] := by
        rw [List.take_add_one, List.getElem?_eq_getElem hi]; rfl
      have htl : (xs.take i).length = i := by rw [List.length_take]; omega
      refine ⟨[some F.mo, some (F.pl xs), some (F.pl ys), some (.ref S.length), some (.int (i : Int)), w5], _, _, rfl, .inl e2, rfl, _, _, _, rfl, rfl, hl2.trans hl, fun j => ?_⟩
      rw [htk, mulL_snoc, hc2, hc, htl, co_get hi])
  have hll : ((List.range xs.length).map fun (k : Nat) => D.int (k : Int)).length = xs.length := by simp
  rw [hll, List.take_length] at hc
  exact ⟨_, zs', hl, hc, e, w4, w5, rfl⟩
omit hk in
theorem Lf.fmul (h1 : P.fn 111 = some F111) (h2 : P.fn 115 = some F115) (p q : Poly α) (hz : p.len + q.len ≤ 100000) : Fnv P (F.k0 + 2) 115 [F.mo, F.po p, F.po q] (F.po (p * q)) := by
  intro d S
  rw [show d + (F.k0 + 2) = d + (F.k0 + 1) + 1 by omega, call_eq h2 rfl (by decide), B115]
  generalize hρ : ([F.mo, F.po p, F.po q].map some ++ List.replicate (6 - 3) none : Env) = ρ
  have v0 : ev P (callF P (d + (F.k0 + 1))) (.var 0) ρ S = ret F.mo S := ev_var (by rw [← hρ]; rfl)
  have l1 : ev P (callF P (d + (F.k0 + 1))) (.bi .len (.cons (.var 1) .nil)) ρ S = ret (.int (p.len : Int)) S := by
    have := len_run (P := P) (cl := callF P (d + (F.k0 + 1))) (ρ := ρ) (S := S) (e := .var 1) (xs := F.encs p.c) (ev_var (by rw [← hρ]; rfl))
    rwa [F.encs_len] at this
  have l2 : ev P (callF P (d + (F.k0 + 1))) (.bi .len (.cons (.var 2) .nil)) ρ S = ret (.int (q.len : Int)) S := by
    have := len_run (P := P) (cl := callF P (d + (F.k0 + 1))) (ρ := ρ) (S := S) (e := .var 2) (xs := F.encs q.c) (ev_var (by rw [← hρ]; rfl))
    rwa [F.encs_len] at this
  have hN : ev P (callF P (d + (F.k0 + 1))) (.bi .max (.cons (.lit (.int 0)) (.cons (.bin .sub (.bin .add (.bi .len (.cons (.var 1) .nil)) (.bi .len (.cons (.var 2) .nil))) (.lit (.int 1))) .nil))) ρ S = ret (.int ((p.len + q.len - 1 : Nat) : Int)) S := by
    have hs : ev P (callF P (d + (F.k0 + 1))) (.bin .sub (.bin .add (.bi .len (.cons (.var 1) .nil)) (.bi .len (.cons (.var 2) .nil))) (.lit (.int 1))) ρ S = ret (.int (((p.len + q.len : Nat) : Int) - 1)) S := by
      rw [ev, add_nat l1 l2, bnd_ret, ev, bnd_ret]
      rfl
    rw [ev, evs, ev, bnd_ret, evs, hs, bnd_ret, evs, bnd_ret, bnd_ret, bnd_ret]
    show (ret (D.int (max 0 (((p.len + q.len : Nat) : Int) - 1))) S : R D) = _
    congr 2
    omega
  have hrep : List.replicate (p.len + q.len - 1) (F.enc 0) = F.encs (List.replicate (p.len + q.len - 1) 0) := by
    unfold Lf.encs
    rw [List.map_replicate]
  rw [execs_cons, own_run (rep_run (F.e_nul (by omega) v0) hN (by omega)), sq_nx, execs_cons, hrep]
  obtain ⟨ρ', zs, hl, hc, e, w4, w5, rfl⟩ := lmul_out F (k := F.k0 + 1) (by omega) d (S := S) (xs := p.c) (ys := q.c) (N := p.len + q.len - 1) (by show p.len + q.len ≤ _; omega) (by show p.len ≤ _; omega) (by show q.len ≤ _; omega) none none
  have e' : exec P (callF P (d + (F.k0 + 1))) (.for_ (.name 4) (.rng (.lit (.int 0)) (.bi .len (.cons (.var 1) .nil)) 1) lmulOut) (ρ.set 3 (some (.ref S.length))) (S ++ [.lst (F.encs (List.replicate (p.len + q.len - 1) 0))]) = some (.nx [some F.mo, some (F.pl p.c), some (F.pl q.c), some (.ref S.length), w4, w5] (S ++ [.lst (F.encs zs)])) := by
    rw [← hρ]
    exact e
  show fin false S.length (sq (exec P _ (.for_ _ _ lmulOut) _ _) _) = _
  rw [e', sq_nx]
  have ht := pcut_run F h1 d zs (.ref S.length) (S ++ [.lst (F.encs zs)]) (items_cell _ _) (.inr (litems_cell _ _))
  rw [ret_run (S' := S ++ [.lst (F.encs zs)]) (v := F.pl (trim zs)) (by rw [call2 (x := F.mo) (y := .ref S.length) (ev_var rfl) (ev_var rfl)]; exact ht), fin_rt (F.pl_lt _ _), take_cell]
  have : trim zs = (p * q).c := by
    rw [← (p * q).nm]
    exact trim_ext fun j => by rw [hc, Poly.co_mul]
  rw [this]
  rfl
end
end RG
set_option Elab.async false
set_option linter.all false
set_option maxRecDepth 100000
/-! The law's division. -/
namespace RG
open PySem Lean.Grind
section
variable {P : Prog} {α : Type} [Field α] [DecidableEq α] (F : Lf P α) {k : Nat} (hk : F.k0 ≤ k)
def ldivIn : Ss := .cons (.sub (.var 3) (.bin .add (.var 6) (.var 8)) (.call 105 (.cons (.var 0) (.cons (.idx (.var 3) (.bin .add (.var 6) (.var 8))) (.cons (.call 107 (.cons (.var 0) (.cons (.call 106 (.cons (.var 0) (.cons (.var 7) (.cons (.idx (.var 2) (.var 8)) .nil)))) .nil))) .nil))))) .nil
def ldivBody : Ss := .cons (.set 7 (.call 106 (.cons (.var 0) (.cons (.idx (.var 3) (.bin .sub (.bin .add (.var 6) (.bi .len (.cons (.var 2) .nil))) (.lit (.int 1)))) (.cons (.var 4) .nil)))))
  (.cons (.sub (.var 5) (.var 6) (.var 7)) (.cons (.for_ (.name 8) (.rng (.lit (.int 0)) (.bi .len (.cons (.var 2) .nil)) 1) ldivIn) .nil))
include hk
theorem ldiv_in1 (d : Nat) {ρ : Env} {S : Store} {rs ts qs : List α} {K m : Nat} {f : α} (h0 : ρ[0]? = some (some F.mo)) (h2 : ρ[2]? = some (some (F.pl qs))) (h3 : ρ[3]? = some (some (.ref S.length))) (h6 : ρ[6]? = some (some (.int (K : Int)))) (h7 : ρ[7]? = some (some (F.enc f))) (h8 : ρ[8]? = some (some (.int (m : Int))))
    (hm : m < qs.length) (hr : K + m < rs.length) :
    execs P (callF P (d + k)) ldivIn ρ (st2 S (F.encs rs) (F.encs ts)) = some (.nx ρ (st2 S (F.encs (rs.set (K + m) (co rs (K + m) - f * co qs m))) (F.encs ts))) := by
  have v0 : ev P (callF P (d + k)) (.var 0) ρ (st2 S (F.encs rs) (F.encs ts)) = ret F.mo (st2 S (F.encs rs) (F.encs ts)) := ev_var h0
  have v3 : ev P (callF P (d + k)) (.var 3) ρ (st2 S (F.encs rs) (F.encs ts)) = ret (.ref S.length) (st2 S (F.encs rs) (F.encs ts)) := ev_var h3
  have v68 := add_nat (P := P) (cl := callF P (d + k)) (ρ := ρ) (S := st2 S (F.encs rs) (F.encs ts)) (ev_var h6) (ev_var h8)
  have hq := idx_run (P := P) (cl := callF P (d + k)) (ρ := ρ) (S := st2 S (F.encs rs) (F.encs ts)) (ev_var h2) (ev_var h8) (xs := F.encs qs) rfl (F.encs_get hm)
  have hn := F.e_neg hk v0 (F.e_mul hk v0 (ev_var h7) hq)
  have hz := idx_run v3 v68 (st2_i0 S _ _).1 (F.encs_get hr)
  have ha := F.e_add hk v0 hz hn
  have e : rs[K + m] + -(f * qs[m]) = co rs (K + m) - f * co qs m := by rw [co_get hr, co_get hm]; grind
  rw [e] at ha
  unfold ldivIn
  rw [execs_cons, sub_runG ha v3 v68 (st2_0 S _ _) (by rw [F.encs_len]; exact hr) (F.lt0 _ _), sq_nx, execs, F.encs_set, st2_s0]
theorem ldiv_body (d : Nat) {S : Store} {rs ts qs : List α} {K : Nat} {iv : α} {v1 v7 v8 : Option D} (hq : 0 < qs.length) (hqz : qs.length ≤ 100000) (hr : K + qs.length ≤ rs.length) (ht : K < ts.length) :
    ∃ w8 rs', rs'.length = rs.length ∧ (∀ j, co rs' j = co rs j - if K ≤ j then (co rs (K + qs.length - 1) * iv) * co qs (j - K) else 0) ∧
      execs P (callF P (d + k)) ldivBody [some F.mo, v1, some (F.pl qs), some (.ref S.length), some (F.enc iv), some (.ref (S.length + 1)), some (.int (K : Int)), v7, v8] (st2 S (F.encs rs) (F.encs ts)) =
        some (.nx [some F.mo, v1, some (F.pl qs), some (.ref S.length), some (F.enc iv), some (.ref (S.length + 1)), some (.int (K : Int)), some (F.enc (co rs (K + qs.length - 1) * iv)), w8] (st2 S (F.encs rs') (F.encs (ts.set K (co rs (K + qs.length - 1) * iv))))) := by
  have l2 : ∀ (v7 : Option D) (St : Store), ev P (callF P (d + k)) (.bi .len (.cons (.var 2) .nil)) [some F.mo, v1, some (F.pl qs), some (.ref S.length), some (F.enc iv), some (.ref (S.length + 1)), some (.int (K : Int)), v7, v8] St = ret (.int (qs.length : Int)) St := fun v7 St => by
    have := len_run (P := P) (cl := callF P (d + k)) (ρ := [some F.mo, v1, some (F.pl qs), some (.ref S.length), some (F.enc iv), some (.ref (S.length + 1)), some (.int (K : Int)), v7, v8]) (S := St) (e := .var 2) (xs := F.encs qs) (ev_var rfl)
    rwa [F.encs_len] at this
  have hi : K + qs.length - 1 < rs.length := by omega
  have e1 := idx_run (P := P) (cl := callF P (d + k)) (ρ := [some F.mo, v1, some (F.pl qs), some (.ref S.length), some (F.enc iv), some (.ref (S.length + 1)), some (.int (K : Int)), v7, v8]) (S := st2 S (F.encs rs) (F.encs ts)) (a := .var 3) (b := .bin .sub (.bin .add (.var 6) (.bi .len (.cons (.var 2) .nil))) (.lit (.int 1))) (ev_var rfl) (sub_nat (z := 1) 1 rfl (by omega) (add_nat (a := .var 6) (ev_var rfl) (l2 v7 _))) (st2_i0 S _ _).1 (F.encs_get hi)
  rw [co_get hi] at e1
  have e2 := F.e_mul hk (x := .var 0) (z := .var 4) (b := iv) (ev_var rfl) e1 (ev_var rfl)
  generalize hf : co rs (K + qs.length - 1) * iv = f at e2 ⊢
  have s3 := sub_runG (P := P) (cl := callF P (d + k)) (ρ := [some F.mo, v1, some (F.pl qs), some (.ref S.length), some (F.enc iv), some (.ref (S.length + 1)), some (.int (K : Int)), some (F.enc f), v8]) (St := st2 S (F.encs rs) (F.encs ts)) (l := .var 5) (i := .var 6) (e := .var 7) (ev_var rfl) (ev_var rfl) (ev_var rfl) (st2_1 S _ _) (by rw [F.encs_len]; exact ht) (F.lt0 f _)
  rw [F.encs_set, st2_s1] at s3
  obtain ⟨ρ', S', e, w8, rs', rfl, rfl, hl, hc⟩ := forGo_inv (t := .name 8) (g := none) (body := fun ρ S => execs P (callF P (d + k)) ldivIn ρ S) (xs := (List.range qs.length).map fun (k : Nat) => D.int (k : Int))
    (fun m ρ St => ∃ w8 rs', ρ = [some F.mo, v1, some (F.pl qs), some (.ref S.length), some (F.enc iv), some (.ref (S.length + 1)), some (.int (K : Int)), some (F.enc f), w8] ∧ St = st2 S (F.encs rs') (F.encs (ts.set K f)) ∧ rs'.length = rs.length ∧ ∀ j, co rs' j = co rs j - if K ≤ j ∧ j < K + m then f * co qs (j - K) else 0)
    (ρ := [some F.mo, v1, some (F.pl qs), some (.ref S.length), some (F.enc iv), some (.ref (S.length + 1)), some (.int (K : Int)), some (F.enc f), v8]) (S := st2 S (F.encs rs) (F.encs (ts.set K f))) ⟨v8, rs, rfl, rfl, rfl, fun j => by rw [if_neg (by omega)]; grind⟩ (by
      rintro m z ρ St hx ⟨w8, rs', rfl, rfl, hl, hc⟩
      obtain ⟨hm, rfl⟩ := range_get hx
      have hKm : K + m < rs'.length := by omega
      refine ⟨[some F.mo, v1, some (F.pl qs), some (.ref S.length), some (F.enc iv), some (.ref (S.length + 1)), some (.int (K : Int)), some (F.enc f), some (.int (m : Int))], _, _, rfl, .inl (ldiv_in1 F hk d rfl rfl rfl rfl rfl rfl hm hKm), rfl, _, _, rfl, rfl, by rw [List.length_set]; exact hl, fun j => ?_⟩
      rw [co_set hKm]
      by_cases hj : j = K + m
      · subst hj
        rw [if_pos rfl, hc, if_neg (by omega), if_pos (by omega), Nat.add_sub_cancel_left]; grind
      · rw [if_neg hj, hc]
        by_cases h2 : K ≤ j ∧ j < K + m
        · rw [if_pos h2, if_pos (by omega)]
        · rw [if_neg h2, if_neg (by omega)])
  refine ⟨w8, rs', hl, fun j => ?_, ?_⟩
  · have hll : ((List.range qs.length).map fun (k : Nat) => D.int (k : Int)).length = qs.length := by simp
    rw [hll] at hc
    rw [hc]
    by_cases h1 : K ≤ j
    · rw [if_pos h1]
      by_cases h2 : j < K + qs.length
      · rw [if_pos ⟨h1, h2⟩]
      · rw [if_neg (by omega), co_out (l := qs) (by omega)]; grind
    · rw [if_neg h1, if_neg (by omega)]
  · unfold ldivBody
    rw [execs_cons, set_run e2, sq_nx, execs_cons]
    have s3' : exec P (callF P (d + k)) (.sub (.var 5) (.var 6) (.var 7)) (([some F.mo, v1, some (F.pl qs), some (.ref S.length), some (F.enc iv), some (.ref (S.length + 1)), some (.int (K : Int)), v7, v8] : Env).set 7 (some (F.enc f))) (st2 S (F.encs rs) (F.encs ts)) = _ := s3
    rw [s3', sq_nx, execs_cons, for_run (rngU_run (l2 _ _) (by omega)), e, sq_nx, execs]
theorem ldiv_loop (d : Nat) {S : Store} (p q : Poly α) {n : Nat} {lo : E} {v6 v7 v8 : Option D} (hq : 0 < q.len) (hn : n + q.len = p.len + 1) (hz : p.len ≤ 100000)
    (hlo : ∀ St, ev P (callF P (d + k)) lo [some F.mo, some (F.po p), some (F.po q), some (.ref S.length), some (F.enc (q.lc)⁻¹), some (.ref (S.length + 1)), v6, v7, v8] St = ret (.int ((n : Int) - 1)) St) :
    ∃ ρ' rs ts, (∀ j, co p.c j = co (mulL ts q.c) j + co rs j) ∧ (∀ j, q.len - 1 ≤ j → co rs j = 0) ∧ (∃ w6 w7 w8, ρ' = [some F.mo, some (F.po p), some (F.po q), some (.ref S.length), some (F.enc (q.lc)⁻¹), some (.ref (S.length + 1)), w6, w7, w8]) ∧
      exec P (callF P (d + k)) (.for_ (.name 6) (.rng lo (.neg (.lit (.int 1))) (-1)) ldivBody) [some F.mo, some (F.po p), some (F.po q), some (.ref S.length), some (F.enc (q.lc)⁻¹), some (.ref (S.length + 1)), v6, v7, v8] (st2 S (F.encs p.c) (F.encs (List.replicate n 0))) = some (.nx ρ' (st2 S (F.encs rs) (F.encs ts))) := by
  have hlc := Poly.lc_ne hq
  rw [for_run (rngD_run (hlo _) (by omega))]
  obtain ⟨ρ', S', e, w6, w7, w8, rs, ts, rfl, rfl, hl, htl, ht0, hc, hz0⟩ := forGo_inv (t := .name 6) (g := none) (body := fun ρ S => execs P (callF P (d + k)) ldivBody ρ S) (xs := (List.range n).map fun (k : Nat) => D.int ((n : Int) - 1 - k))
    (fun i ρ St => ∃ w6 w7 w8 rs ts, ρ = [some F.mo, some (F.po p), some (F.po q), some (.ref S.length), some (F.enc (q.lc)⁻¹), some (.ref (S.length + 1)), w6, w7, w8] ∧ St = st2 S (F.encs rs) (F.encs ts) ∧ rs.length = p.len ∧ ts.length = n ∧ (∀ j, j < n - i → co ts j = 0) ∧
      (∀ j, co p.c j = co (mulL ts q.c) j + co rs j) ∧ ∀ j, (n - i) + q.len - 1 ≤ j → co rs j = 0)
    (ρ := [some F.mo, some (F.po p), some (F.po q), some (.ref S.length), some (F.enc (q.lc)⁻¹), some (.ref (S.length + 1)), v6, v7, v8]) (S := st2 S (F.encs p.c) (F.encs (List.replicate n 0)))
    ⟨v6, v7, v8, p.c, List.replicate n 0, rfl, rfl, rfl, List.length_replicate, fun j _ => co_rep' n j, fun j => by
      have := mulL_congL (a := List.replicate n (0 : α)) (b := []) q.c (fun i => by rw [co_rep', co_nil]) j
      rw [this]
      show _ = co [] j + _
      rw [co_nil]; grind, fun j hj => Poly.co_ge (by omega)⟩ (by
      rintro i z ρ St hx ⟨w6, w7, w8, rs, ts, rfl, rfl, hl, htl, ht0, hc, hz0⟩
      obtain ⟨hi, rfl⟩ := range_get hx
      have hK : (n : Int) - 1 - (i : Int) = ((n - 1 - i : Nat) : Int) := by omega
      rw [hK]
      generalize hKe : n - 1 - i = K
      have hni : n - i = K + 1 := by omega
      have hni2 : n - (i + 1) = K := by omega
      obtain ⟨u8, rs', hl', hc', er⟩ := ldiv_body F hk d (S := S) (rs := rs) (ts := ts) (qs := q.c) (K := K) (iv := (q.lc)⁻¹) (v1 := some (F.po p)) (v7 := w7) (v8 := w8) hq (by show q.len ≤ _; omega) (by show K + q.len ≤ _; omega) (by omega)
      have hql : q.c.length = q.len := rfl
      rw [hql] at hc'
      refine ⟨[some F.mo, some (F.po p), some (F.po q), some (.ref S.length), some (F.enc (q.lc)⁻¹), some (.ref (S.length + 1)), some (.int (K : Int)), w7, w8], _, _, rfl, .inl er, rfl, _, _, _, rs', _, rfl, rfl, hl'.trans hl, by rw [List.length_set]; exact htl, fun j hj => ?_, fun j => ?_, fun j hj => ?_⟩
      · rw [co_set (by omega), if_neg (by omega)]
        exact ht0 j (by omega)
      · rw [hql, mulL_set ts q.c K _ (by omega) j, ht0 K (by omega), hc j, hc' j]
        by_cases h1 : K ≤ j
        · rw [if_pos h1, if_pos h1]; grind
        · rw [if_neg h1, if_neg h1]; grind
      · rw [hni2] at hj
        rw [hc' j, if_pos (by omega)]
        by_cases h3 : j = K + q.len - 1
        · have h4 : co q.c (j - K) = q.lc := by
            unfold Poly.lc
            congr 1
            omega
          rw [h4, h3]
          grind
        · rw [hz0 j (by omega), Poly.co_ge (p := q) (by omega)]; grind)
  have hll : ((List.range n).map fun (k : Nat) => D.int ((n : Int) - 1 - k)).length = n := by simp
  rw [hll] at hz0
  refine ⟨_, rs, ts, hc, fun j hj => hz0 j (by omega), ⟨w6, w7, w8, rfl⟩, e⟩
omit hk in
theorem Lf.fdiv (h1 : P.fn 111 = some F111) (h2 : P.fn 117 = some F117) {p q a r : Poly α} (he : p = a * q + r) (hr : r.len < q.len) (hz : p.len + q.len ≤ 100000) : Fnv P (F.k0 + 2) 117 [F.mo, F.po p, F.po q] (.tup [F.po a, F.po r]) := by
  intro d S
  have hq : 0 < q.len := by omega
  have hk : F.k0 ≤ F.k0 + 1 := by omega
  rw [show d + (F.k0 + 2) = d + (F.k0 + 1) + 1 by omega, call_eq h2 rfl (by decide), B117]
  have hρ : ([F.mo, F.po p, F.po q].map some ++ List.replicate (9 - 3) none : Env) = [some F.mo, some (F.po p), some (F.po q), none, none, none, none, none, none] := rfl
  rw [hρ]
  have hqi : q.len - 1 < q.c.length := by show q.len - 1 < q.len; omega
  have hlast : ∀ St, ev P (callF P (d + (F.k0 + 1))) (.idx (.var 2) (.neg (.lit (.int 1)))) [some F.mo, some (F.po p), some (F.po q), none, none, none, none, none, none] St = ret (F.enc q.lc) St := fun St => by
    rw [ev, ev_var (d := F.po q) rfl, bnd_ret, ev, ev, bnd_ret, bnd_ret]
    show ((some (F.encs q.c)).bind fun xs => (at_ xs (-1)).bind fun z => ret z St) = _
    have : at_ (F.encs q.c) (-1) = some (F.enc q.lc) := by
      unfold at_ ixN
      have hl : (F.encs q.c).length = q.len := F.encs_len _
      rw [if_neg (by omega), if_pos (by rw [hl]; omega), Option.bind_some, hl]
      have : (-1 + (q.len : Int)).toNat = q.len - 1 := by omega
      rw [this, F.encs_get hqi, co_get hqi]
      rfl
    rw [Option.bind_some, this]
    rfl
  have hinv : ∀ St, ev P (callF P (d + (F.k0 + 1))) (.call 110 (.cons (.var 0) (.cons (.idx (.var 2) (.neg (.lit (.int 1)))) .nil))) [some F.mo, some (F.po p), some (F.po q), none, none, none, none, none, none] St = ret (F.enc (q.lc)⁻¹) St := fun St => by
    rw [call2 (x := F.mo) (y := F.enc q.lc) (ev_var rfl) (hlast St)]
    exact (F.inv q.lc (Poly.lc_ne hq)).up hk d St
  have s1 : exec P (callF P (d + (F.k0 + 1))) (.par [3, 4] (.cons (.own (.ofs (.var 1))) (.cons (.call 110 (.cons (.var 0) (.cons (.idx (.var 2) (.neg (.lit (.int 1)))) .nil))) .nil))) [some F.mo, some (F.po p), some (F.po q), none, none, none, none, none, none] S = some (.nx [some F.mo, some (F.po p), some (F.po q), some (.ref S.length), some (F.enc (q.lc)⁻¹), none, none, none, none] (S ++ [.lst (F.encs p.c)])) := by
    rw [exec, evs, ev, ofs_run (xs := F.encs p.c) (v := F.po p) (ev_var rfl) rfl, bnd_ret, bnd_ret, evs, hinv, bnd_ret, evs, bnd_ret, bnd_ret]
    rfl
  rw [execs_cons, s1, sq_nx, execs_cons]
  have lp : ∀ (v5 : Option D) (St : Store), ev P (callF P (d + (F.k0 + 1))) (.bi .len (.cons (.var 1) .nil)) [some F.mo, some (F.po p), some (F.po q), some (.ref S.length), some (F.enc (q.lc)⁻¹), v5, none, none, none] St = ret (.int (p.len : Int)) St := fun v5 St => by
    have := len_run (P := P) (cl := callF P (d + (F.k0 + 1))) (ρ := [some F.mo, some (F.po p), some (F.po q), some (.ref S.length), some (F.enc (q.lc)⁻¹), v5, none, none, none]) (S := St) (e := .var 1) (xs := F.encs p.c) (ev_var rfl)
    rwa [F.encs_len] at this
  have lq : ∀ (v5 : Option D) (St : Store), ev P (callF P (d + (F.k0 + 1))) (.bi .len (.cons (.var 2) .nil)) [some F.mo, some (F.po p), some (F.po q), some (.ref S.length), some (F.enc (q.lc)⁻¹), v5, none, none, none] St = ret (.int (q.len : Int)) St := fun v5 St => by
    have := len_run (P := P) (cl := callF P (d + (F.k0 + 1))) (ρ := [some F.mo, some (F.po p), some (F.po q), some (.ref S.length), some (F.enc (q.lc)⁻¹), v5, none, none, none]) (S := St) (e := .var 2) (xs := F.encs q.c) (ev_var rfl)
    rwa [F.encs_len] at this
  have ld : ∀ (v5 : Option D) (St : Store), ev P (callF P (d + (F.k0 + 1))) (.bin .sub (.bi .len (.cons (.var 1) .nil)) (.bi .len (.cons (.var 2) .nil))) [some F.mo, some (F.po p), some (F.po q), some (.ref S.length), some (F.enc (q.lc)⁻¹), v5, none, none, none] St = ret (.int ((p.len : Int) - (q.len : Int))) St := fun v5 St => by
    rw [ev, lp, bnd_ret, lq, bnd_ret]
    rfl
  generalize hn : p.len + 1 - q.len = n
  have hN : ev P (callF P (d + (F.k0 + 1))) (.bi .max (.cons (.lit (.int 0)) (.cons (.bin .add (.bin .sub (.bi .len (.cons (.var 1) .nil)) (.bi .len (.cons (.var 2) .nil))) (.lit (.int 1))) .nil))) [some F.mo, some (F.po p), some (F.po q), some (.ref S.length), some (F.enc (q.lc)⁻¹), none, none, none, none] (S ++ [.lst (F.encs p.c)]) = ret (.int (n : Int)) (S ++ [.lst (F.encs p.c)]) := by
    have hs : ev P (callF P (d + (F.k0 + 1))) (.bin .add (.bin .sub (.bi .len (.cons (.var 1) .nil)) (.bi .len (.cons (.var 2) .nil))) (.lit (.int 1))) [some F.mo, some (F.po p), some (F.po q), some (.ref S.length), some (F.enc (q.lc)⁻¹), none, none, none, none] (S ++ [.lst (F.encs p.c)]) = ret (.int ((p.len : Int) - (q.len : Int) + 1)) (S ++ [.lst (F.encs p.c)]) := by
      rw [ev, ld, bnd_ret, ev, bnd_ret]
      rfl
    rw [ev, evs, ev, bnd_ret, evs, hs, bnd_ret, evs, bnd_ret, bnd_ret, bnd_ret]
    show (ret (D.int (max 0 ((p.len : Int) - (q.len : Int) + 1))) _ : R D) = _
    congr 2
    omega
  have hrep : List.replicate n (F.enc 0) = F.encs (List.replicate n 0) := by
    unfold Lf.encs
    rw [List.map_replicate]
  rw [own_run (rep_run (F.e_nul hk (ev_var rfl)) hN (by omega)), sq_nx, execs_cons, hrep]
  have hst : S ++ [.lst (F.encs p.c)] ++ [.lst (F.encs (List.replicate n 0))] = st2 S (F.encs p.c) (F.encs (List.replicate n 0)) := by simp [st2]
  have hln : (S ++ [Cell.lst (F.encs p.c)]).length = S.length + 1 := by simp
  rw [hst, hln]
  have hset : ([some F.mo, some (F.po p), some (F.po q), some (.ref S.length), some (F.enc (q.lc)⁻¹), none, none, none, none] : Env).set 5 (some (.ref (S.length + 1))) = [some F.mo, some (F.po p), some (F.po q), some (.ref S.length), some (F.enc (q.lc)⁻¹), some (.ref (S.length + 1)), none, none, none] := rfl
  rw [hset]
  -- the loop
  obtain ⟨ρ', rs, ts, hc, hz0, ⟨w6, w7, w8, rfl⟩, e⟩ : ∃ ρ' rs ts, (∀ j, co p.c j = co (mulL ts q.c) j + co rs j) ∧ (∀ j, q.len - 1 ≤ j → co rs j = 0) ∧ (∃ w6 w7 w8, ρ' = [some F.mo, some (F.po p), some (F.po q), some (.ref S.length), some (F.enc (q.lc)⁻¹), some (.ref (S.length + 1)), w6, w7, w8]) ∧
      exec P (callF P (d + (F.k0 + 1))) (.for_ (.name 6) (.rng (.bin .sub (.bi .len (.cons (.var 1) .nil)) (.bi .len (.cons (.var 2) .nil))) (.neg (.lit (.int 1))) (-1)) ldivBody) [some F.mo, some (F.po p), some (F.po q), some (.ref S.length), some (F.enc (q.lc)⁻¹), some (.ref (S.length + 1)), none, none, none] (st2 S (F.encs p.c) (F.encs (List.replicate n 0))) = some (.nx ρ' (st2 S (F.encs rs) (F.encs ts))) := by
    by_cases hlt : p.len < q.len
    · have hn0 : n = 0 := by omega
      subst hn0
      refine ⟨_, p.c, [], fun j => by show _ = co [] j + _; rw [co_nil]; grind, fun j hj => Poly.co_ge (by omega), ⟨none, none, none, rfl⟩, ?_⟩
      have hit : evIt P (callF P (d + (F.k0 + 1))) (.rng (.bin .sub (.bi .len (.cons (.var 1) .nil)) (.bi .len (.cons (.var 2) .nil))) (.neg (.lit (.int 1))) (-1)) [some F.mo, some (F.po p), some (F.po q), some (.ref S.length), some (F.enc (q.lc)⁻¹), some (.ref (S.length + 1)), none, none, none] (st2 S (F.encs p.c) (F.encs (List.replicate 0 0))) = ret ([], none) (st2 S (F.encs p.c) (F.encs (List.replicate 0 0))) := by
        rw [evIt, ld, bnd_ret, ev, ev, bnd_ret, bnd_ret]
        have h : rngOk ((p.len : Int) - (q.len : Int)) (-1) = true := decide_eq_true ⟨by omega, by omega, by omega, by omega⟩
        show (if rngOk ((p.len : Int) - (q.len : Int)) (-1) then ret (rng ((p.len : Int) - (q.len : Int)) (-1) (-1), none) _ else none) = _
        rw [h, if_pos rfl]
        unfold rng
        rw [if_neg (by decide), if_pos rfl]
        have : ((p.len : Int) - (q.len : Int) - -1).toNat = 0 := by omega
        rw [this]
        rfl
      rw [for_run hit]; exact forGo.eq_1 _ _ _ _ _
    · exact ldiv_loop F (k := F.k0 + 1) hk d p q hq (by omega) (by omega) (fun St => by
        rw [ld]
        congr 2
        omega)
  show fin false S.length (sq (exec P _ (.for_ _ _ ldivBody) _ _) _) = _
  rw [e, sq_nx]
  generalize hρ' : ([some F.mo, some (F.po p), some (F.po q), some (.ref S.length), some (F.enc (q.lc)⁻¹), some (.ref (S.length + 1)), w6, w7, w8] : Env) = ρ'
  have t1 := pcut_run F h1 d ts (.ref (S.length + 1)) (st2 S (F.encs rs) (F.encs ts)) (st2_i1 S _ _).1 (.inr (st2_i1 S _ _).2)
  have t2 := pcut_run F h1 d rs (.ref S.length) (st2 S (F.encs rs) (F.encs ts)) (st2_i0 S _ _).1 (.inr (st2_i0 S _ _).2)
  have hA : trim ts = a.c ∧ trim rs = r.c := by
    have hu := Poly.div_unique (a := a) (b := Poly.of ts) (r := r) (s := Poly.of rs) (q := q) (by
      rw [← he]
      refine Poly.ext fun j => ?_
      rw [hc j, Poly.co_add, Poly.co_mul, Poly.co_of, mulL_congL q.c (a := (Poly.of ts).c) (b := ts) (Poly.co_of ts) j]) hr (by
      have h1 : (Poly.of rs).len ≤ q.len - 1 := Poly.len_le fun j hj => by rw [Poly.co_of, hz0 j hj]
      omega)
    obtain ⟨rfl, rfl⟩ := hu
    exact ⟨rfl, rfl⟩
  rw [hA.1] at t1
  rw [hA.2] at t2
  have w0 : ev P (callF P (d + (F.k0 + 1))) (.var 0) ρ' (st2 S (F.encs rs) (F.encs ts)) = ret F.mo (st2 S (F.encs rs) (F.encs ts)) := ev_var (by rw [← hρ']; rfl)
  have w3 : ev P (callF P (d + (F.k0 + 1))) (.var 3) ρ' (st2 S (F.encs rs) (F.encs ts)) = ret (.ref S.length) (st2 S (F.encs rs) (F.encs ts)) := ev_var (by rw [← hρ']; rfl)
  have w5 : ev P (callF P (d + (F.k0 + 1))) (.var 5) ρ' (st2 S (F.encs rs) (F.encs ts)) = ret (.ref (S.length + 1)) (st2 S (F.encs rs) (F.encs ts)) := ev_var (by rw [← hρ']; rfl)
  rw [ret_run (S' := st2 S (F.encs rs) (F.encs ts)) (v := .tup [F.po a, F.po r]), fin_rt (by rw [D.lt, D.lts, D.lts, D.lts, F.po_lt, F.po_lt]; rfl), st2_take]
  have t1' : callF P (d + (F.k0 + 1)) 111 [F.mo, .ref (S.length + 1)] (st2 S (F.encs rs) (F.encs ts)) = ret (F.po a) (st2 S (F.encs rs) (F.encs ts)) := t1
  have t2' : callF P (d + (F.k0 + 1)) 111 [F.mo, .ref S.length] (st2 S (F.encs rs) (F.encs ts)) = ret (F.po r) (st2 S (F.encs rs) (F.encs ts)) := t2
  rw [ev, evs, call2 w0 w5, t1', bnd_ret, evs, call2 w0 w3, t2', bnd_ret, evs, bnd_ret, bnd_ret, bnd_ret]
end
end RG
set_option Elab.async false
set_option linter.all false
set_option maxRecDepth 100000
/-! Filters; the law's defs for a prime m. -/
namespace RG
open PySem Lean.Grind
/-- what passes -/
def kept (bs : List (Bool × D)) : List D := (bs.filter (·.1)).map (·.2)
theorem kept_snoc (bs : List (Bool × D)) (b : Bool) (y : D) : kept (bs ++ [(b, y)]) = kept bs ++ if b then [y] else [] := by
  unfold kept
  rw [List.filter_append, List.map_append]
  cases b <;> rfl
theorem kept_len (bs : List (Bool × D)) : (kept bs).length ≤ bs.length := by
  unfold kept
  rw [List.length_map]
  exact List.length_filter_le _ _
theorem comp_filter {P : Prog} {cl : Nat → List D → Store → R D} {ρ : Env} {S : Store} {own : List Nat} {tg : Tg} {it : It} {c elt : E} {xs : List D} {bs : List (Bool × D)} {g : Guard} (hit : evIt P cl it ρ S = ret (xs, g) S) (hg : g.ok S = true) (hl : bs.length = xs.length) (hz : xs.length ≤ 100000)
    (h : ∀ (i : Nat) (x : D), xs[i]? = some x → ∃ ρ2 b y, bind S tg x (wipe ρ own) = some ρ2 ∧ ev P cl c ρ2 S = ret (.bl b) S ∧ (b = true → ev P cl elt ρ2 S = ret y S) ∧ bs[i]? = some (b, y)) : evL P cl (.comp own tg it c elt) ρ S = ret (kept bs) S := by
  rw [evL, hit, bnd_ret]
  have key : ∀ (zs : List D) (i : Nat), i ≤ xs.length → xs.drop i = zs → foldR (fun (acc : List D) (x : D) (S : Store) => match bind S tg x (wipe ρ own) with
      | none => none
      | some ρ2 => gd g (bnd (ev P cl c ρ2 S) fun k S => match k with
        | .bl true => bnd (ev P cl elt ρ2 S) fun y S => if acc.length < 100000 then ret (acc ++ [y]) S else none
        | .bl false => ret acc S
        | _ => none)) zs (kept (bs.take i)) S = ret (kept bs) S := by
    intro zs
    induction zs with
    | nil =>
      intro i hi hd
      have hle : xs.length ≤ i := List.drop_eq_nil_iff.mp hd
      rw [foldR, List.take_of_length_le (by omega)]
    | cons z zs ih =>
      intro i _ hd
      have hi : i < xs.length := by
        apply Nat.lt_of_not_le
        intro q
        rw [List.drop_eq_nil_of_le q] at hd
        cases hd
      have hdr := List.drop_eq_getElem_cons hi
      rw [hd] at hdr
      have hx : xs[i]? = some z := by rw [List.getElem?_eq_getElem hi, (List.cons.inj hdr).1]
      obtain ⟨ρ2, b, y, e1, e2, e3, e4⟩ := h i z hx
      have ht : kept (bs.take i) ++ (if b then [y] else []) = kept (bs.take (i + 1)) := by
        rw [List.take_add_one, e4]
        exact (kept_snoc _ b y).symm
      have hlen : (kept (bs.take i)).length < 100000 := by
        have := kept_len (bs.take i)
        rw [List.length_take] at this
        omega
      have := ih (i + 1) hi (List.cons.inj hdr).2.symm
      rw [foldR]
      simp only [e1, e2, bnd_ret]
      cases b with
      | true =>
        simp only [e3 rfl, bnd_ret]
        rw [if_pos hlen]
        unfold gd
        rw [bnd_ret, hg, if_pos rfl, bnd_ret]
        simp only [if_true] at ht
        rw [ht]
        exact this
      | false =>
        unfold gd
        simp only [bnd_ret, hg, if_true]
        simp only [Bool.false_eq_true, if_false, List.append_nil] at ht
        rw [ht]
        exact this
  have := key xs 0 (Nat.zero_le _) rfl
  rw [List.take_zero] at this
  exact congrArg nox this
/-- the first that passes -/
theorem kept_head : ∀ (bs : List (Bool × D)) (y : D) (i : Nat), bs[i]? = some (true, y) → (∀ j, j < i → ∀ (q : Bool × D), bs[j]? = some q → q.1 = false) → (kept bs)[0]? = some y
  | [], y, i, h, _ => by simp at h
  | (true, z) :: bs, y, 0, h, _ => by
    rw [List.getElem?_cons_zero] at h
    cases h
    rfl
  | (false, z) :: bs, y, 0, h, _ => by
    rw [List.getElem?_cons_zero] at h
    cases h
  | (true, z) :: bs, y, i + 1, h, hj => by
    have := hj 0 (by omega) (true, z) rfl
    cases this
  | (false, z) :: bs, y, i + 1, h, hj => by
    rw [List.getElem?_cons_succ] at h
    exact kept_head bs y i h fun j hji q hq => hj (j + 1) (by omega) q (by rw [List.getElem?_cons_succ]; exact hq)
theorem Ev.intc {P : Prog} {k : Nat} {ρ : Env} {e : E} {x : Int} (h : Ev P k e ρ (.int x)) : Ev P k (.bi .int (.cons e .nil)) ρ (.int x) := fun d S => by
  rw [ev, evs, h, bnd_ret, evs, bnd_ret, bnd_ret]
  rfl
/-- the law's defs of a field stand in the text -/
structure LfOk (P : Prog) : Prop where
  f105 : P.fn 105 = some F105
  f106 : P.fn 106 = some F106
  f107 : P.fn 107 = some F107
  f108 : P.fn 108 = some F108
  f109 : P.fn 109 = some F109
  f110 : P.fn 110 = some F110
  f210 : P.fn 210 = some F210
section
variable {P : Prog} {k : Nat} {ρ : Env} {m : Nat} (hm : 0 < m)
include hm
/-- m == 0 is false -/
theorem Ev.mz {e : E} (h : Ev P k e ρ (.int (m : Int))) : Ev P k (.bin .eq e (.lit (.int 0))) ρ (.bl false) := fun d S => by
  have := eq_nat (z := 0) 0 rfl (h d S)
  rwa [_root_.decide_eq_false (by omega)] at this
theorem Ev.modm {a b : E} {x : Nat} (ha : Ev P k a ρ (.int (x : Int))) (hb : Ev P k b ρ (.int (m : Int))) : Ev P k (.bin .mod a b) ρ (.int ((x % m : Nat) : Int)) := fun d S => mod_nat m hm (ha d S) (hb d S)
end
theorem rng_from {P : Prog} {cl : Nat → List D → Store → R D} {ρ : Env} {S : Store} {a b : E} {lo hi : Nat} (ha : ev P cl a ρ S = ret (.int (lo : Int)) S) (hb : ev P cl b ρ S = ret (.int (hi : Int)) S) (hlo : lo ≤ 1000000) (hhi : hi ≤ 1000000) : evIt P cl (.rng a b 1) ρ S = ret ((List.range (hi - lo)).map fun (k : Nat) => D.int ((lo + k : Nat) : Int), none) S := by
  rw [evIt, ha, bnd_ret, hb, bnd_ret]
  have h : rngOk (lo : Int) (hi : Int) = true := decide_eq_true ⟨by omega, by omega, by omega, by omega⟩
  show (if rngOk (lo : Int) (hi : Int) then ret (rng (lo : Int) hi 1, none) S else none) = _
  rw [h, if_pos rfl]
  unfold rng
  rw [if_pos rfl]
  have : ((hi : Int) - (lo : Int)).toNat = hi - lo := by omega
  rw [this]
  congr 2
theorem nat_val {m : Nat} [hp : PrimeP m] : ∀ j : Nat, ((nat j : Fin m)).val = j % m
  | 0 => by
    show ((0 : Fin m)).val = _
    rw [fin_zero, Nat.zero_mod]
  | j + 1 => by
    show ((nat j : Fin m) + 1).val = _
    rw [Fin.val_add, nat_val j, fin_one, Nat.mod_add_mod]
def lfc {P : Prog} (h : LfOk P) (m : Nat) [hp : PrimeP m] (hz : m ≤ 100000) : Lf P (Fin m) where
  mo := .int (m : Int)
  enc := fun a => .int (a.val : Int)
  k0 := 1
  lt0 := fun a n => rfl
  mlt := fun n => rfl
  eqb := fun a b => by
    show some (D.bl ((a.val : Int) == (b.val : Int))) = _
    congr 2
    by_cases e : a = b
    · subst e; simp
    · rw [_root_.decide_eq_false e, beq_eq_false_iff_ne]
      intro z
      exact e (Fin.ext (by omega))
  add := fun a b => by
    have hm : 0 < m := by have := hp.two; omega
    refine Fnv.of (k := 0) h.f105 rfl (by decide) (fun _ => rfl) (Exr.ret (Ev.ite (x := false) (Ev.mz hm (.var rfl)) (fun z => by cases z) fun _ => ?_))
    have e : ((a + b : Fin m).val : Int) = (((a.val + b.val) % m : Nat) : Int) := by rw [Fin.val_add]
    rw [e]
    exact Ev.modm hm (.intc (Ev.bin (.var rfl) (.var rfl) (by show some (D.int ((a.val : Int) + (b.val : Int))) = _; rw [← Int.natCast_add]))) (.var rfl)
  mul := fun a b => by
    have hm : 0 < m := by have := hp.two; omega
    refine Fnv.of (k := 0) h.f106 rfl (by decide) (fun _ => rfl) (Exr.ret (Ev.ite (x := false) (Ev.mz hm (.var rfl)) (fun z => by cases z) fun _ => ?_))
    have e : ((a * b : Fin m).val : Int) = (((a.val * b.val) % m : Nat) : Int) := by rw [Fin.val_mul]
    rw [e]
    exact Ev.modm hm (.intc fun d S => mul_nat (by have := a.isLt; omega) (ev_var rfl) (ev_var rfl)) (.var rfl)
  neg := fun a => by
    have hm : 0 < m := by have := hp.two; omega
    refine Fnv.of (k := 0) h.f107 rfl (by decide) (fun _ => rfl) (Exr.ret (Ev.ite (x := false) (Ev.mz hm (.var rfl)) (fun z => by cases z) fun _ => Ev.bin (x := .int (-(a.val : Int))) (y := .int (m : Int)) (.intc fun d S => ?_) (.var rfl) ?_))
    · rw [ev, ev_var (d := .int (a.val : Int)) rfl, bnd_ret]
    · show (if (m : Int) ≠ 0 then some (D.int (Int.fmod (-(a.val : Int)) m)) else none) = _
      rw [if_pos (by omega)]
      have : Int.fmod (-(a.val : Int)) m = ((-a : Fin m).val : Int) := by
        rw [Int.fmod_eq_emod_of_nonneg _ (by omega), Fin.val_neg']
        have e : (((m - a.val) % m : Nat) : Int) = ((m - a.val : Nat) : Int) % (m : Int) := rfl
        rw [e, Int.ofNat_sub (Nat.le_of_lt a.isLt), show (m : Int) - (a.val : Int) = -(a.val : Int) + (m : Int) * 1 by omega, Int.add_mul_emod_self_left]
      rw [this]
  nul := by
    have hm : 0 < m := by have := hp.two; omega
    refine Fnv.of (k := 0) h.f108 rfl (by decide) (fun _ => rfl) (Exr.ret (Ev.ite (x := false) (Ev.mz hm (.var rfl)) (fun z => by cases z) fun _ => ?_))
    rw [fin_zero]
    exact .lit _
  one := by
    have hm : 0 < m := by have := hp.two; omega
    refine Fnv.of (k := 0) h.f210 rfl (by decide) (fun _ => rfl) (Exr.ret (Ev.ite (x := false) (Ev.mz hm (.var rfl)) (fun z => by cases z) fun _ => ?_))
    rw [fin_one]
    exact .lit _
  int := fun j => by
    have hm : 0 < m := by have := hp.two; omega
    refine Fnv.of (k := 0) h.f109 rfl (by decide) (fun _ => rfl) (Exr.ret (Ev.ite (x := false) (Ev.mz hm (.var rfl)) (fun z => by cases z) fun _ => ?_))
    rw [nat_val]
    exact Ev.modm hm (.intc (.var rfl)) (.var rfl)
  inv := fun a ha => by
    have hm : 0 < m := by have := hp.two; omega
    have hi := fin_inv ha
    have hiv : finInv a ≠ 0 := fun z => by
      rw [z] at hi
      apply fin_01 (m := m)
      rw [← hi]; grind
    have hv0 : (finInv a).val ≠ 0 := fin_ne hiv
    have hvl := (finInv a).isLt
    refine Fnv.of (k := 0) h.f110 rfl (by decide) (fun _ => rfl) (Exr.ifr (x := false) (Ev.mz hm (.var rfl)) (fun z => by cases z) fun _ => Exr.ret (Ev.idxL (xs := kept ((List.range (m - 1)).map fun (k : Nat) => (decide (a.val * (1 + k) % m = 1), D.int ((1 + k : Nat) : Int)))) 0 (.frz fun d S => ?_) (.lit _) ?_))
    · refine comp_filter (xs := (List.range (m - 1)).map fun (k : Nat) => D.int ((1 + k : Nat) : Int)) (rng_from (lo := 1) (hi := m) (by rw [ev]; rfl) (ev_var rfl) (by omega) (by omega)) rfl (by simp) (by simp; omega) fun i x hx => ?_
      obtain ⟨hil, rfl⟩ := range_get hx
      refine ⟨_, decide (a.val * (1 + i) % m = 1), D.int ((1 + i : Nat) : Int), rfl, eq_nat (z := 1) 1 rfl ((Ev.modm (k := 0) hm (.intc fun d S => mul_nat (by have := a.isLt; omega) (ev_var rfl) (ev_var rfl)) (.var rfl)) d S), fun _ => ev_var rfl, ?_⟩
      rw [List.getElem?_map, List.getElem?_range hil]
      rfl
    · refine kept_head _ _ ((finInv a).val - 1) ?_ fun j hj q hq => ?_
      · rw [List.getElem?_map, List.getElem?_range (by omega)]
        show some (_, _) = _
        have e1 : 1 + ((finInv a).val - 1) = (finInv a).val := by omega
        have e2 : a.val * (finInv a).val % m = 1 := by
          have := congrArg Fin.val hi
          rwa [Fin.val_mul, fin_one] at this
        rw [e1, _root_.decide_eq_true e2]
        rfl
      · rw [List.getElem?_map, List.getElem?_range (by omega)] at hq
        have hq : (decide (a.val * (1 + j) % m = 1), D.int ((1 + j : Nat) : Int)) = q := by simpa using hq
        rw [← hq]
        refine _root_.decide_eq_false fun z => ?_
        have hjm : 1 + j < m := by omega
        have e3 : a * (⟨1 + j, hjm⟩ : Fin m) = 1 := Fin.ext (by rw [Fin.val_mul, fin_one]; exact z)
        have e4 : (⟨1 + j, hjm⟩ : Fin m) = finInv a := by
          have : (⟨1 + j, hjm⟩ : Fin m) = finInv a * (a * ⟨1 + j, hjm⟩) := by
            have : finInv a * (a * (⟨1 + j, hjm⟩ : Fin m)) = (a * finInv a) * ⟨1 + j, hjm⟩ := by grind
            rw [this, hi]; grind
          rw [this, e3]; grind
        have := congrArg Fin.val e4
        simp at this
        omega
end RG
set_option Elab.async false
set_option linter.all false
set_option maxRecDepth 100000
/-! The law's greatest common divisor. -/
namespace RG
open PySem Lean.Grind
section
variable {P : Prog} {α : Type} [Field α] [DecidableEq α] (F : Lf P α)
/-- the law's defs of polynomials stand in the text -/
structure LpOk (P : Prog) : Prop where
  f111 : P.fn 111 = some F111
  f112 : P.fn 112 = some F112
  f113 : P.fn 113 = some F113
  f114 : P.fn 114 = some F114
  f115 : P.fn 115 = some F115
  f116 : P.fn 116 = some F116
  f117 : P.fn 117 = some F117
  f118 : P.fn 118 = some F118
  f119 : P.fn 119 = some F119
variable (H : LpOk P)
include H
theorem Lf.e_last {k : Nat} {ρ : Env} {e : E} {q : Poly α} (hq : 0 < q.len) (h : Ev P k e ρ (F.po q)) : Ev P k (.idx e (.neg (.lit (.int 1)))) ρ (F.enc q.lc) := fun d S => by
  have hqi : q.len - 1 < q.c.length := by show q.len - 1 < q.len; omega
  rw [ev, h, bnd_ret, ev, ev, bnd_ret, bnd_ret]
  show ((some (F.encs q.c)).bind fun xs => (at_ xs (-1)).bind fun z => ret z S) = _
  have : at_ (F.encs q.c) (-1) = some (F.enc q.lc) := by
    unfold at_ ixN
    have hl : (F.encs q.c).length = q.len := F.encs_len _
    rw [if_neg (by omega), if_pos (by rw [hl]; omega), Option.bind_some, hl]
    have : (-1 + (q.len : Int)).toNat = q.len - 1 := by omega
    rw [this, F.encs_get hqi, co_get hqi]
    rfl
  rw [Option.bind_some, this]
  rfl
theorem Lf.fmonic (p : Poly α) (hp : 0 < p.len) (hz : p.len ≤ 100000) : Fnv P (F.k0 + 3) 118 [F.mo, F.po p] (F.po (Poly.C (p.lc)⁻¹ * p)) := by
  refine Fnv.of (k := F.k0 + 2) H.f118 rfl (by decide) (F.po_lt _) (Exr.ret (Ev.ite (x := true) (Ev.bin (Ev.len (xs := F.encs p.c) (.var rfl)) (.lit _) ?_) (fun _ => .call (F.fscale H.f111 H.f116 p _ hz) (Nat.le_refl _) (.cons (.var rfl) (.cons (.var rfl) (.cons (.call (F.inv _ (Poly.lc_ne hp)) (by omega) (.cons (.var rfl) (.cons (F.e_last H hp (.var rfl)) .nil))) .nil)))) fun z => by cases z))
  show some (D.bl (decide ((0 : Int) < ((F.encs p.c).length : Int)))) = _
  rw [F.encs_len, _root_.decide_eq_true (by unfold Poly.len at hp; omega)]
/-- h is what Euclid comes to: each common divisor divides it -/
theorem Lf.gcd_loop : ∀ (n : Nat) (f g : Poly α), g.len ≤ n → 0 < f.len → f.len ≤ 50000 → g.len ≤ 50000 → ∃ h : Poly α, 0 < h.len ∧ h.len ≤ 50000 ∧ (∀ t u v : Poly α, f = u * t → g = v * t → ∃ w, h = w * t) ∧ ((∃ u, f = u * h) ∧ ∃ v, g = v * h) ∧
    ∀ (d : Nat) (S : Store), exec P (callF P (d + (F.k0 + 3))) (.whl (.bin .gt (.bi .len (.cons (.var 2) .nil)) (.lit (.int 0))) (.cons (.par [1, 2] (.cons (.var 2) (.cons (.idx (.call 117 (.cons (.var 0) (.cons (.var 1) (.cons (.var 2) .nil)))) (.lit (.int 1))) .nil))) .nil)) [some F.mo, some (F.po f), some (F.po g)] S = some (.nx [some F.mo, some (F.po h), some (F.po 0)] S) := by
  intro n
  induction n with
  | zero =>
    intro f g hg hf bf bg
    have g0 : g = 0 := Poly.len_zero (by omega)
    subst g0
    refine ⟨f, hf, bf, fun t u v e _ => ⟨u, e⟩, ⟨⟨1, by grind⟩, ⟨0, by grind⟩⟩, fun d S => whl_no ?_⟩
    have := Ev.bin (P := P) (k := F.k0 + 3) (ρ := [some F.mo, some (F.po f), some (F.po (0 : Poly α))]) (o := .gt) (Ev.len (xs := F.encs (0 : Poly α).c) (e := .var 2) (.var rfl)) (.lit (.int 0)) (z := .bl false) (by
      show some (D.bl (decide ((0 : Int) < ((F.encs (0 : Poly α).c).length : Int)))) = _
      rw [F.encs_len, Poly.zero_c]
      rfl)
    exact this d S
  | succ n ih =>
    intro f g hg hf bf bg
    by_cases hz : g.len = 0
    · exact ih f g (by omega) hf bf bg
    · have hgp : 0 < g.len := by omega
      obtain ⟨a, r, e, hr⟩ := Poly.div_exists g (Poly.ne_of_len hgp) f.len f (Nat.le_refl _)
      obtain ⟨h, h1, h2, h3, ⟨⟨u0, hu0⟩, ⟨v0, hv0⟩⟩, h4⟩ := ih g r (by omega) hgp bg (by omega)
      refine ⟨h, h1, h2, fun t u v eu ev => ?_, ⟨⟨a * u0 + v0, by rw [e]; grind⟩, ⟨u0, hu0⟩⟩, fun d S => ?_⟩
      · refine h3 t v (u - a * v) ev ?_
        have : r = f - a * g := by grind
        rw [this, eu, ev]; grind
      · have c := Ev.bin (P := P) (k := F.k0 + 3) (ρ := [some F.mo, some (F.po f), some (F.po g)]) (o := .gt) (Ev.len (xs := F.encs g.c) (e := .var 2) (.var rfl)) (.lit (.int 0)) (z := .bl true) (by
          show some (D.bl (decide ((0 : Int) < ((F.encs g.c).length : Int)))) = _
          rw [F.encs_len, _root_.decide_eq_true (by unfold Poly.len at hgp; omega)])
        have q := Ev.idx (P := P) (k := F.k0 + 3) (ρ := [some F.mo, some (F.po f), some (F.po g)]) (a := .call 117 (.cons (.var 0) (.cons (.var 1) (.cons (.var 2) .nil)))) (b := .lit (.int 1)) 1 (.call (F.fdiv H.f111 H.f117 e hr (by omega)) (by omega) (.cons (.var rfl) (.cons (.var rfl) (.cons (.var rfl) .nil)))) (.lit _) (x := F.po r) rfl
        rw [whl_nx (ρ' := [some F.mo, some (F.po g), some (F.po r)]) (S' := S) (c d S) ?_]
        · exact h4 d S
        · rw [execs_cons, exec, evs, ev_var (d := F.po g) rfl, bnd_ret, evs, q d S, bnd_ret, evs, bnd_ret, bnd_ret]
          show sq (some (.nx _ S)) _ = _
          rw [sq_nx, execs]
          rfl
theorem Lf.fgcd (f g : Poly α) (hf : 0 < f.len) (bf : f.len ≤ 50000) (bg : g.len ≤ 50000) : ∃ h : Poly α, 0 < h.len ∧ (∀ t u v : Poly α, f = u * t → g = v * t → ∃ w, h = w * t) ∧ ((∃ u, f = u * h) ∧ ∃ v, g = v * h) ∧ Fnv P (F.k0 + 4) 119 [F.mo, F.po f, F.po g] (F.po h) := by
  obtain ⟨h, h1, h2, h3, ⟨⟨u0, hu0⟩, ⟨v0, hv0⟩⟩, h4⟩ := F.gcd_loop H g.len f g (Nat.le_refl _) hf bf bg
  have hi : (h.lc)⁻¹ ≠ 0 := fun z => by
    have := Poly.lc_ne h1
    apply Field.zero_ne_one (α := α)
    have e : h.lc * (h.lc)⁻¹ = 1 := by grind
    rw [z] at e
    rw [← e]; grind
  have hC := Poly.lc_C hi
  have hm := Poly.len_mul (p := Poly.C (h.lc)⁻¹) (q := h) (Poly.ne_of_len (by omega)) (Poly.ne_of_len h1)
  have hinv : Poly.C h.lc * Poly.C (h.lc)⁻¹ = 1 := by
    rw [← Poly.C_mul]
    have : h.lc * (h.lc)⁻¹ = 1 := by have := Poly.lc_ne h1; grind
    rw [this]; rfl
  refine ⟨Poly.C (h.lc)⁻¹ * h, by omega, fun t u v e1 e2 => ?_, ⟨⟨u0 * Poly.C h.lc, by rw [hu0]; grind⟩, ⟨v0 * Poly.C h.lc, by rw [hv0]; grind⟩⟩, fun d S => ?_⟩
  · obtain ⟨w, hw⟩ := h3 t u v e1 e2
    exact ⟨Poly.C (h.lc)⁻¹ * w, by rw [hw]; grind⟩
  · rw [show d + (F.k0 + 4) = d + (F.k0 + 3) + 1 by omega, call_eq H.f119 rfl (by decide), B119, execs_cons]
    have e := h4 d S
    have e' : exec P (callF P (d + (F.k0 + 3))) (.whl (.bin .gt (.bi .len (.cons (.var 2) .nil)) (.lit (.int 0))) (.cons (.par [1, 2] (.cons (.var 2) (.cons (.idx (.call 117 (.cons (.var 0) (.cons (.var 1) (.cons (.var 2) .nil)))) (.lit (.int 1))) .nil))) .nil)) ([F.mo, F.po f, F.po g].map some ++ List.replicate (3 - 3) none) S = some (.nx [some F.mo, some (F.po h), some (F.po 0)] S) := e
    rw [e', sq_nx]
    have m := F.fmonic H h h1 (by omega) d S
    rw [ret_run (S' := S) (v := F.po (Poly.C (h.lc)⁻¹ * h)) (by rw [call2 (x := F.mo) (y := F.po h) (ev_var rfl) (ev_var rfl)]; exact m), fin_rt (F.po_lt _ _), List.take_length]
omit H in
theorem EvI.rngF {k : Nat} {ρ : Env} {a b : E} {lo hi : Nat} (ha : Ev P k a ρ (.int (lo : Int))) (hb : Ev P k b ρ (.int (hi : Int))) (hlo : lo ≤ 1000000) (hhi : hi ≤ 1000000) : EvI P k (.rng a b 1) ρ ((List.range (hi - lo)).map fun (j : Nat) => D.int ((lo + j : Nat) : Int)) := fun d S => rng_from (ha d S) (hb d S) hlo hhi
theorem Lf.fslope (h120 : P.fn 120 = some F120) (p : Poly α) (hz : p.len ≤ 100000) : Fnv P (F.k0 + 2) 120 [F.mo, F.po p] (F.po p.der) := by
  have e : p.der.c = trim (tab (p.len - 1) fun j => co p.c (j + 1) * nat (j + 1)) := by
    rw [← p.der.nm]
    refine trim_ext fun j => ?_
    rw [Poly.co_der, co_tab]
    by_cases hj : j < p.len - 1
    · rw [if_pos hj]; grind
    · rw [if_neg hj, Poly.co_ge (p := p) (by omega)]; grind
  refine Fnv.of (k := F.k0 + 1) h120 rfl (by decide) (F.po_lt _) (Exr.ret ?_)
  show Ev P _ _ _ (F.pl p.der.c)
  rw [e]
  have lp := Ev.len (P := P) (k := F.k0 + 1) (ρ := [F.mo, F.po p].map some ++ List.replicate (3 - 2) none) (e := .var 1) (xs := F.encs p.c) (.var rfl)
  rw [F.encs_len] at lp
  refine .call (F.fcutL H.f111 _) (Nat.le_refl _) (.cons (.var rfl) (.cons (.frz (EvL.comp (EvI.rngF (lo := 1) (hi := p.len) (.lit _) lp (by omega) (by omega)) (by rw [F.encs_len]; simp [tab]) (by simp; omega) fun i x hx => ?_)) .nil))
  obtain ⟨hi, rfl⟩ := range_get hx
  have hip : 1 + i < p.c.length := by show 1 + i < p.len; omega
  refine ⟨_, F.enc (co p.c (i + 1) * nat (i + 1)), fun _ => rfl, .call (F.mul _ _) (by omega) (.cons (.var rfl) (.cons (.idx (1 + i) (xs := F.encs p.c) (.var rfl) (.var rfl) ?_) (.cons (.call (j := F.k0) ?_ (by omega) (.cons (.var rfl) (.cons (.var rfl) .nil))) .nil))), ?_⟩
  · rw [F.encs_get hip, co_get hip, Nat.add_comm]
  · rw [Nat.add_comm]; exact F.int (i + 1)
  · have l3 : i < (tab (p.len - 1) fun j => co p.c (j + 1) * nat (j + 1) : List α).length := by simp [tab]; exact hi
    rw [F.encs_get l3, co_get l3, co_tab, if_pos hi]
/-- squarefree: true keeps squares away; Bezout's equation makes it true -/
theorem Lf.fsqf (h120 : P.fn 120 = some F120) (h121 : P.fn 121 = some F121) (f : Poly α) (hf : 0 < f.len) (bf : f.len ≤ 50000) : ∃ b : Bool, Fnv P (F.k0 + 5) 121 [F.mo, F.po f] (.bl b) ∧ (b = true → ∀ N : Poly α, f = N * N → N.len ≤ 1) ∧ ((∃ u v : Poly α, u * f + v * f.der = 1) → b = true) := by
  have hd : f.der.len ≤ 50000 := by
    have : f.der.len ≤ f.len := Poly.len_le fun i hi => by rw [Poly.co_der, Poly.co_ge (by omega)]; grind
    omega
  obtain ⟨h, h1, h2, ⟨⟨u0, hu0⟩, ⟨v0, hv0⟩⟩, h3⟩ := F.fgcd H f f.der hf bf hd
  refine ⟨decide (h.len = 1), ?_, fun hb N hN => ?_, fun ⟨u, v, e⟩ => ?_⟩
  · refine Fnv.of (k := F.k0 + 4) h121 rfl (by decide) (fun _ => rfl) (Exr.ret fun d S => ?_)
    have lh := Ev.len (P := P) (k := F.k0 + 4) (ρ := [F.mo, F.po f].map some ++ List.replicate (2 - 2) none) (e := .call 119 (.cons (.var 0) (.cons (.var 1) (.cons (.call 120 (.cons (.var 0) (.cons (.var 1) .nil))) .nil)))) (xs := F.encs h.c) (.call h3 (Nat.le_refl _) (.cons (.var rfl) (.cons (.var rfl) (.cons (.call (F.fslope H h120 f (by omega)) (by omega) (.cons (.var rfl) (.cons (.var rfl) .nil))) .nil))))
    rw [F.encs_len] at lh
    exact eq_nat (z := 1) 1 rfl (lh d S)
  · have hb' : h.len = 1 := by simpa using hb
    obtain ⟨w, hw⟩ := h2 N N (N.der + N.der) hN (by rw [hN, Poly.der_mul]; grind)
    have hw0 : w ≠ 0 := fun z => by
      rw [z] at hw
      have : h = 0 := by rw [hw]; grind
      rw [this, Poly.len_0] at h1
      omega
    have hN0 : N ≠ 0 := fun z => by
      rw [z] at hw
      have : h = 0 := by rw [hw]; grind
      rw [this, Poly.len_0] at h1
      omega
    have := (Poly.len_mul hw0 hN0).1
    rw [← hw, hb'] at this
    have := Poly.len_pos hw0
    omega
  · have e1 : (u * u0 + v * v0) * h = 1 := by
      have : (u * u0 + v * v0) * h = u * (u0 * h) + v * (v0 * h) := by grind
      rw [this, ← hu0, ← hv0, e]
    have hk0 : (u * u0 + v * v0) ≠ 0 := fun z => by
      rw [z] at e1
      apply Poly.one_ne (α := α)
      rw [← e1]; grind
    have := (Poly.len_mul hk0 (Poly.ne_of_len h1)).1
    rw [e1, (Poly.one_lc (α := α)).1] at this
    have := Poly.len_pos hk0
    have : h.len = 1 := by omega
    simp [this]
end
end RG
set_option Elab.async false
set_option linter.all false
set_option maxRecDepth 100000
/-! What a run comes to, said by what must hold behind it: one rule a construct. -/
namespace RG
open PySem Lean.Grind
def Rp {α : Type} (r : R α) (Q : α → Store → Prop) (X : Exc → Store → Prop) : Prop :=
  match r with
  | some (.ok a S) => Q a S
  | some (.ex x S) => X x S
  | none => False
theorem Rp.mono {α : Type} {r : R α} {Q Q' : α → Store → Prop} {X X' : Exc → Store → Prop} (h : Rp r Q X) (hq : ∀ a S, Q a S → Q' a S) (hx : ∀ x S, X x S → X' x S) : Rp r Q' X' := by
  unfold Rp at *
  cases r with
  | none => exact h
  | some r => cases r with
    | ok a S => exact hq a S h
    | ex x S => exact hx x S h
theorem Rp.bd {α β : Type} {r : R α} {k : α → Store → R β} {Q : β → Store → Prop} {X : Exc → Store → Prop} (h : Rp r (fun a S => Rp (k a S) Q X) X) : Rp (bnd r k) Q X := by
  cases r with
  | none => exact h
  | some r => cases r with
    | ok a S => exact h
    | ex x S => exact h
theorem Rp.rt {α : Type} {a : α} {S : Store} {Q : α → Store → Prop} {X : Exc → Store → Prop} (h : Q a S) : Rp (ret a S) Q X := h
/-- it comes to just this -/
theorem Rp.eq {α : Type} {r : R α} {a : α} {S : Store} (h : Rp r (fun b S' => b = a ∧ S' = S) (fun _ _ => False)) : r = ret a S := by
  cases r with
  | none => exact h.elim
  | some r => cases r with
    | ok b S' => obtain ⟨rfl, rfl⟩ := h; rfl
    | ex x S' => exact h.elim
theorem Rp.of_eq {α : Type} {r : R α} {a : α} {S : Store} {Q : α → Store → Prop} {X : Exc → Store → Prop} (h : r = RG.ret a S) (q : Q a S) : Rp r Q X := by rw [h]; exact q
def Og (o : Option Out) (N : Env → Store → Prop) (T : D → Store → Prop) (C : Env → Store → Prop) (X : Exc → Env → Store → Prop) : Prop :=
  match o with
  | some (.nx ρ S) => N ρ S
  | some (.rt v S) => T v S
  | some (.ct ρ S) => C ρ S
  | some (.ex x ρ S) => X x ρ S
  | none => False
theorem Og.mono {o : Option Out} {N N' : Env → Store → Prop} {T T' : D → Store → Prop} {C C' : Env → Store → Prop} {X X' : Exc → Env → Store → Prop} (h : Og o N T C X) (hn : ∀ ρ S, N ρ S → N' ρ S) (ht : ∀ v S, T v S → T' v S) (hc : ∀ ρ S, C ρ S → C' ρ S) (hx : ∀ x ρ S, X x ρ S → X' x ρ S) : Og o N' T' C' X' := by
  unfold Og at *
  cases o with
  | none => exact h
  | some o => cases o with
    | nx ρ S => exact hn _ _ h
    | rt v S => exact ht _ _ h
    | ct ρ S => exact hc _ _ h
    | ex x ρ S => exact hx _ _ _ h
section
variable (P : Prog) (k : Nat)
structure We (e : E) (ρ : Env) (S : Store) (Q : D → Store → Prop) (X : Exc → Store → Prop) : Prop where
  h : ∀ d, Rp (ev P (callF P (d + k)) e ρ S) Q X
structure Wes (es : Es) (ρ : Env) (S : Store) (Q : List D → Store → Prop) (X : Exc → Store → Prop) : Prop where
  h : ∀ d, Rp (evs P (callF P (d + k)) es ρ S) Q X
structure Wl (l : L) (ρ : Env) (S : Store) (Q : List D → Store → Prop) (X : Exc → Store → Prop) : Prop where
  h : ∀ d, Rp (evL P (callF P (d + k)) l ρ S) Q X
structure Wi (it : It) (ρ : Env) (S : Store) (Q : List D → Guard → Store → Prop) (X : Exc → Store → Prop) : Prop where
  h : ∀ d, Rp (evIt P (callF P (d + k)) it ρ S) (fun p S => Q p.1 p.2 S) X
structure Wc (f : Nat) (vs : List D) (S : Store) (Q : D → Store → Prop) (X : Exc → Store → Prop) : Prop where
  h : ∀ d, Rp (callF P (d + k) f vs S) Q X
structure Ws (s : RG.S) (ρ : Env) (S : Store) (N : Env → Store → Prop) (T : D → Store → Prop) (C : Env → Store → Prop) (X : Exc → Env → Store → Prop) : Prop where
  h : ∀ d, Og (exec P (callF P (d + k)) s ρ S) N T C X
structure Wb (b : Ss) (ρ : Env) (S : Store) (N : Env → Store → Prop) (T : D → Store → Prop) (C : Env → Store → Prop) (X : Exc → Env → Store → Prop) : Prop where
  h : ∀ d, Og (execs P (callF P (d + k)) b ρ S) N T C X
end
/-- what a binary operator gives -/
def Bn (o : Op) (x y : D) (K : D → Prop) : Prop := ∃ z, binop o x y = some z ∧ K z
def Ix (S : Store) (x y : D) (K : D → Prop) : Prop := ∃ xs i z, items S x = some xs ∧ y = .int i ∧ at_ xs i = some z ∧ K z
def Bo (x : D) (A B : Prop) : Prop := ∃ b, x = .bl b ∧ (b = true → A) ∧ (b = false → B)
section
variable {P : Prog} {k : Nat} {ρ : Env} {S : Store} {Q : D → Store → Prop} {X : Exc → Store → Prop}
theorem We.mono {Q' : D → Store → Prop} {X' : Exc → Store → Prop} {e : E} (h : We P k e ρ S Q X) (hq : ∀ a S, Q a S → Q' a S) (hx : ∀ x S, X x S → X' x S) : We P k e ρ S Q' X' := .mk fun d => (h.1 d).mono hq hx
theorem Wc.mono {Q' : D → Store → Prop} {X' : Exc → Store → Prop} {f : Nat} {vs : List D} (h : Wc P k f vs S Q X) (hq : ∀ a S, Q a S → Q' a S) (hx : ∀ x S, X x S → X' x S) : Wc P k f vs S Q' X' := .mk fun d => (h.1 d).mono hq hx
theorem Wc.up {j : Nat} {f : Nat} {vs : List D} (h : Wc P j f vs S Q X) (hj : j ≤ k) : Wc P k f vs S Q X := .mk fun d => by
  have := h.1 (d + (k - j))
  rwa [show d + (k - j) + j = d + k by omega] at this
theorem Fnv.w {f j : Nat} {vs : List D} {v : D} (h : Fnv P j f vs v) (hj : j ≤ k) (q : Q v S) : Wc P k f vs S Q X := .mk fun d => Rp.of_eq (h.up hj d S) q
theorem Ev.w {j : Nat} {e : E} {v : D} (h : Ev P j e ρ v) (hj : j ≤ k) (q : Q v S) : We P k e ρ S Q X := .mk fun d => Rp.of_eq (h.up hj d S) q
theorem Wc.fnv {f : Nat} {vs : List D} {v : D} (h : ∀ S, Wc P k f vs S (fun w S' => w = v ∧ S' = S) (fun _ _ => False)) : Fnv P k f vs v := fun d S => Rp.eq ((h S).1 d)
/-! expressions -/
theorem We.var {i : Nat} {v : D} (h : ρ[i]? = some (some v)) (q : Q v S) : We P k (.var i) ρ S Q X := .mk fun _ => Rp.of_eq (ev_var h) q
theorem We.lit {v : D} (q : Q v S) : We P k (.lit v) ρ S Q X := .mk fun _ => Rp.of_eq (ev_lit v) q
theorem We.bin {o : Op} {a b : E} (h : We P k a ρ S (fun x S => We P k b ρ S (fun y S => Bn o x y fun z => Q z S) X) X) : We P k (.bin o a b) ρ S Q X := .mk fun d => by
  rw [ev]
  refine Rp.bd ((h.1 d).mono (fun x S h => Rp.bd ((h.1 d).mono (fun y S h => ?_) fun _ _ h => h)) fun _ _ h => h)
  obtain ⟨z, e, q⟩ := h
  rw [e]; exact q
theorem We.neg {a : E} (h : We P k a ρ S (fun x S => ∃ i, x = .int i ∧ Q (.int (-i)) S) X) : We P k (.neg a) ρ S Q X := .mk fun d => by
  rw [ev]
  refine Rp.bd ((h.1 d).mono (fun x S h => ?_) fun _ _ h => h)
  obtain ⟨i, rfl, q⟩ := h
  exact q
theorem We.not {a : E} (h : We P k a ρ S (fun x S => ∃ b, x = .bl b ∧ Q (.bl (!b)) S) X) : We P k (.not a) ρ S Q X := .mk fun d => by
  rw [ev]
  refine Rp.bd ((h.1 d).mono (fun x S h => ?_) fun _ _ h => h)
  obtain ⟨i, rfl, q⟩ := h
  exact q
theorem We.isN {ng : Bool} {a : E} (h : We P k a ρ S (fun x S => Q (.bl (if ng then !x.isNon else x.isNon)) S) X) : We P k (.isN ng a) ρ S Q X := .mk fun d => by
  rw [ev]
  exact Rp.bd ((h.1 d).mono (fun x S h => h) fun _ _ h => h)
theorem We.inn {ng : Bool} {a b : E} (h : We P k a ρ S (fun x S => We P k b ρ S (fun y S => ∃ z, inop S x y = some z ∧ Q (.bl (if ng then !z else z)) S) X) X) : We P k (.inn ng a b) ρ S Q X := .mk fun d => by
  rw [ev]
  refine Rp.bd ((h.1 d).mono (fun x S h => Rp.bd ((h.1 d).mono (fun y S h => ?_) fun _ _ h => h)) fun _ _ h => h)
  obtain ⟨z, e, q⟩ := h
  rw [e]; exact q
theorem We.and {a b : E} (h : We P k a ρ S (fun x S => Bo x (We P k b ρ S Q X) (Q (.bl false) S)) X) : We P k (.and a b) ρ S Q X := .mk fun d => by
  rw [ev]
  refine Rp.bd ((h.1 d).mono (fun x S h => ?_) fun _ _ h => h)
  obtain ⟨i, rfl, h1, h2⟩ := h
  cases i with
  | true => exact (h1 rfl).1 d
  | false => exact h2 rfl
theorem We.or {a b : E} (h : We P k a ρ S (fun x S => Bo x (Q (.bl true) S) (We P k b ρ S Q X)) X) : We P k (.or a b) ρ S Q X := .mk fun d => by
  rw [ev]
  refine Rp.bd ((h.1 d).mono (fun x S h => ?_) fun _ _ h => h)
  obtain ⟨i, rfl, h1, h2⟩ := h
  cases i with
  | true => exact h1 rfl
  | false => exact (h2 rfl).1 d
theorem We.ite {c a b : E} (h : We P k c ρ S (fun x S => Bo x (We P k a ρ S Q X) (We P k b ρ S Q X)) X) : We P k (.ite c a b) ρ S Q X := .mk fun d => by
  rw [ev]
  refine Rp.bd ((h.1 d).mono (fun x S h => ?_) fun _ _ h => h)
  obtain ⟨i, rfl, h1, h2⟩ := h
  cases i with
  | true => exact (h1 rfl).1 d
  | false => exact (h2 rfl).1 d
theorem We.chain {o1 o2 : Op} {a b c : E} (h : We P k a ρ S (fun x S => We P k b ρ S (fun y S => Bn o1 x y fun t => Bo t (We P k c ρ S (fun z S => Bn o2 y z fun w => Q w S) X) (Q (.bl false) S)) X) X) : We P k (.chain o1 o2 a b c) ρ S Q X := .mk fun d => by
  rw [ev]
  refine Rp.bd ((h.1 d).mono (fun x S h => Rp.bd ((h.1 d).mono (fun y S h => ?_) fun _ _ h => h)) fun _ _ h => h)
  obtain ⟨t, e, i, rfl, h1, h2⟩ := h
  rw [e]
  cases i with
  | true =>
    refine Rp.bd (((h1 rfl).1 d).mono (fun z S h => ?_) fun _ _ h => h)
    obtain ⟨w, e, q⟩ := h
    rw [e]; exact q
  | false => exact h2 rfl
theorem We.tup {es : Es} (h : Wes P k es ρ S (fun xs S => Q (.tup xs) S) X) : We P k (.tup es) ρ S Q X := .mk fun d => by
  rw [ev]
  exact Rp.bd ((h.1 d).mono (fun x S h => h) fun _ _ h => h)
theorem We.frz {l : L} (h : Wl P k l ρ S (fun xs S => Q (.lst xs) S) X) : We P k (.frz l) ρ S Q X := .mk fun d => by
  rw [ev]
  exact Rp.bd ((h.1 d).mono (fun x S h => h) fun _ _ h => h)
theorem We.own {l : L} (h : Wl P k l ρ S (fun xs S => Q (.ref S.length) (S ++ [.lst xs])) X) : We P k (.own l) ρ S Q X := .mk fun d => by
  rw [ev]
  exact Rp.bd ((h.1 d).mono (fun x S h => h) fun _ _ h => h)
theorem We.idx {a b : E} (h : We P k a ρ S (fun x S => We P k b ρ S (fun y S => Ix S x y fun z => Q z S) X) X) : We P k (.idx a b) ρ S Q X := .mk fun d => by
  rw [ev]
  refine Rp.bd ((h.1 d).mono (fun x S h => Rp.bd ((h.1 d).mono (fun y S h => ?_) fun _ _ h => h)) fun _ _ h => h)
  obtain ⟨xs, i, z, e1, rfl, e2, q⟩ := h
  dsimp only
  rw [e1, Option.bind_some, e2]
  exact q
theorem We.slc_l {a el eh : E} (h : We P k a ρ S (fun x S => We P k el ρ S (fun l S => ∃ i z, l = .int i ∧ slice S x (some i) none = some z ∧ Q z S) X) X) : We P k (.slc a (some ()) none el eh) ρ S Q X := .mk fun d => by
  rw [ev]
  refine Rp.bd ((h.1 d).mono (fun x S h => Rp.bd ((h.1 d).mono (fun y S h => ?_) fun _ _ h => h)) fun _ _ h => h)
  obtain ⟨i, z, rfl, e, q⟩ := h
  dsimp only
  rw [e]; exact q
theorem We.slc_h {a el eh : E} (h : We P k a ρ S (fun x S => We P k eh ρ S (fun l S => ∃ i z, l = .int i ∧ slice S x none (some i) = some z ∧ Q z S) X) X) : We P k (.slc a none (some ()) el eh) ρ S Q X := .mk fun d => by
  rw [ev]
  refine Rp.bd ((h.1 d).mono (fun x S h => Rp.bd ((h.1 d).mono (fun y S h => ?_) fun _ _ h => h)) fun _ _ h => h)
  obtain ⟨i, z, rfl, e, q⟩ := h
  dsimp only
  rw [e]; exact q
theorem We.call {f : Nat} {es : Es} (h : Wes P k es ρ S (fun vs S => Wc P k f vs S Q X) X) : We P k (.call f es) ρ S Q X := .mk fun d => by
  rw [ev]
  exact Rp.bd ((h.1 d).mono (fun vs S h => h.1 d) fun _ _ h => h)
theorem We.meth {o : E} {m f c : Nat} {ks : List Nat} {ws : List D} {es : Es} (ho : Ev P k o ρ (.obj c ks ws)) (hm : P.meth c m = some f) (hk : ks.contains m = false) (h : Wes P k es ρ S (fun vs S => Wc P k f (.obj c ks ws :: vs) S Q X) X) : We P k (.meth o m es) ρ S Q X := .mk fun d => by
  rw [ev_meth (ho d S) hm hk]
  exact Rp.bd ((h.1 d).mono (fun vs S h => h.1 d) fun _ _ h => h)
theorem We.bi {b : BI} {es : Es} (h : Wes P k es ρ S (fun vs S => ∃ z, biop S b vs = some z ∧ Q z S) X) : We P k (.bi b es) ρ S Q X := .mk fun d => by
  rw [ev]
  refine Rp.bd ((h.1 d).mono (fun vs S h => ?_) fun _ _ h => h)
  obtain ⟨z, e, q⟩ := h
  rw [e]; exact q
theorem Wes.nil {Q : List D → Store → Prop} (q : Q [] S) : Wes P k .nil ρ S Q X := .mk fun d => by rw [evs]; exact q
theorem Wes.cons {Q : List D → Store → Prop} {e : E} {es : Es} (h : We P k e ρ S (fun v S => Wes P k es ρ S (fun vs S => Q (v :: vs) S) X) X) : Wes P k (.cons e es) ρ S Q X := .mk fun d => by
  rw [evs]
  exact Rp.bd ((h.1 d).mono (fun v S h => Rp.bd ((h.1 d).mono (fun vs S h => h) fun _ _ h => h)) fun _ _ h => h)
/-! lists -/
theorem Wl.disp {Q : List D → Store → Prop} {es : Es} (h : Wes P k es ρ S Q X) : Wl P k (.disp es) ρ S Q X := .mk fun d => by rw [evL]; exact h.1 d
theorem Wl.ofs {Q : List D → Store → Prop} {e : E} (h : We P k e ρ S (fun x S => ∃ xs, items S x = some xs ∧ Q xs S) X) : Wl P k (.ofs e) ρ S Q X := .mk fun d => by
  rw [evL]
  refine Rp.bd ((h.1 d).mono (fun vs S h => ?_) fun _ _ h => h)
  obtain ⟨z, e, q⟩ := h
  rw [e]; exact q
theorem Wl.cat {Q : List D → Store → Prop} {a b : E} (h : We P k a ρ S (fun x S => We P k b ρ S (fun y S => ∃ xs ys, litems S x = some xs ∧ litems S y = some ys ∧ xs.length + ys.length ≤ 100000 ∧ Q (xs ++ ys) S) X) X) : Wl P k (.cat a b) ρ S Q X := .mk fun d => by
  rw [evL]
  refine Rp.bd ((h.1 d).mono (fun x S h => Rp.bd ((h.1 d).mono (fun y S h => ?_) fun _ _ h => h)) fun _ _ h => h)
  obtain ⟨xs, ys, e1, e2, hl, q⟩ := h
  rw [e1, Option.bind_some, e2, Option.bind_some, if_pos hl]
  exact q
theorem Wl.rep {Q : List D → Store → Prop} {a b : E} (h : We P k a ρ S (fun x S => We P k b ρ S (fun y S => ∃ xs i, litems S x = some xs ∧ y = .int i ∧ xs.length * i.toNat ≤ 100000 ∧ -100000 ≤ i ∧ i ≤ 100000 ∧ Q (List.replicate i.toNat xs).flatten S) X) X) : Wl P k (.rep a b) ρ S Q X := .mk fun d => by
  rw [evL]
  refine Rp.bd ((h.1 d).mono (fun x S h => Rp.bd ((h.1 d).mono (fun y S h => ?_) fun _ _ h => h)) fun _ _ h => h)
  obtain ⟨xs, i, e1, rfl, h1, h2, h3, q⟩ := h
  dsimp only
  rw [e1, Option.bind_some, if_pos ⟨h1, h2, h3⟩]
  exact q
/-! what is walked -/
theorem Wi.seq {Q : List D → Guard → Store → Prop} {e : E} (h : We P k e ρ S (fun x S => ∃ xs, items S x = some xs ∧ Q xs (guardOf S x) S) X) : Wi P k (.seq e) ρ S Q X := .mk fun d => by
  rw [evIt]
  refine Rp.bd ((h.1 d).mono (fun vs S h => ?_) fun _ _ h => h)
  obtain ⟨z, e, q⟩ := h
  rw [e]; exact q
theorem Wi.enum {Q : List D → Guard → Store → Prop} {e : E} (h : We P k e ρ S (fun x S => ∃ xs, items S x = some xs ∧ Q (xs.zipIdx.map fun p => .tup [.int p.2, p.1]) (guardOf S x) S) X) : Wi P k (.enum e) ρ S Q X := .mk fun d => by
  rw [evIt]
  refine Rp.bd ((h.1 d).mono (fun vs S h => ?_) fun _ _ h => h)
  obtain ⟨z, e, q⟩ := h
  rw [e]; exact q
theorem Wi.rng {Q : List D → Guard → Store → Prop} {a b : E} {st : Int} (h : We P k a ρ S (fun x S => We P k b ρ S (fun y S => ∃ l u, x = .int l ∧ y = .int u ∧ rngOk l u = true ∧ Q (rng l u st) none S) X) X) : Wi P k (.rng a b st) ρ S Q X := .mk fun d => by
  rw [evIt]
  refine Rp.bd ((h.1 d).mono (fun x S h => Rp.bd ((h.1 d).mono (fun y S h => ?_) fun _ _ h => h)) fun _ _ h => h)
  obtain ⟨l, u, rfl, rfl, e, q⟩ := h
  dsimp only
  rw [if_pos e]
  exact q
theorem Wi.rev {Q : List D → Guard → Store → Prop} {e : E} (h : We P k e ρ S (fun x S => ∃ xs, x = .tup xs ∧ Q xs.reverse none S) X) : Wi P k (.rev e) ρ S Q X := .mk fun d => by
  rw [evIt]
  refine Rp.bd ((h.1 d).mono (fun vs S h => ?_) fun _ _ h => h)
  obtain ⟨z, rfl, q⟩ := h
  exact q
/-! operators by their values -/
theorem Bn.add {i j : Int} {K : D → Prop} (h : K (.int (i + j))) : Bn .add (.int i) (.int j) K := ⟨_, rfl, h⟩
theorem Bn.sub {i j : Int} {K : D → Prop} (h : K (.int (i - j))) : Bn .sub (.int i) (.int j) K := ⟨_, rfl, h⟩
theorem Bn.mul {i j : Int} {K : D → Prop} (hb : bitsOk i j = true) (h : K (.int (i * j))) : Bn .mul (.int i) (.int j) K := ⟨.int (i * j), by show (if bitsOk i j then some (D.int (i * j)) else none) = _; rw [if_pos hb], h⟩
theorem Bn.fdv {i j : Int} {K : D → Prop} (hb : divOk j = true) (h : K (.int (i.fdiv j))) : Bn .fdv (.int i) (.int j) K := ⟨.int (i.fdiv j), by show (if divOk j then some (D.int (i.fdiv j)) else none) = _; rw [if_pos hb], h⟩
theorem Bn.mod {i j : Int} {K : D → Prop} (hb : j ≠ 0) (h : K (.int (i.fmod j))) : Bn .mod (.int i) (.int j) K := ⟨.int (i.fmod j), by show (if j ≠ 0 then some (D.int (i.fmod j)) else none) = _; rw [if_pos hb], h⟩
theorem Bn.lt {i j : Int} {K : D → Prop} (h : K (.bl (decide (i < j)))) : Bn .lt (.int i) (.int j) K := ⟨_, rfl, h⟩
theorem Bn.le {i j : Int} {K : D → Prop} (h : K (.bl (decide (i ≤ j)))) : Bn .le (.int i) (.int j) K := ⟨_, rfl, h⟩
theorem Bn.gt {i j : Int} {K : D → Prop} (h : K (.bl (decide (j < i)))) : Bn .gt (.int i) (.int j) K := ⟨_, rfl, h⟩
theorem Bn.ge {i j : Int} {K : D → Prop} (h : K (.bl (decide (j ≤ i)))) : Bn .ge (.int i) (.int j) K := ⟨_, rfl, h⟩
theorem Bn.eqI {i j : Int} {K : D → Prop} (h : K (.bl (i == j))) : Bn .eq (.int i) (.int j) K := ⟨_, rfl, h⟩
theorem Bn.neI {i j : Int} {K : D → Prop} (h : K (.bl (!(i == j)))) : Bn .ne (.int i) (.int j) K := ⟨_, rfl, h⟩
theorem Bn.addT {xs ys : List D} {K : D → Prop} (hl : xs.length + ys.length ≤ 1000) (h : K (.tup (xs ++ ys))) : Bn .add (.tup xs) (.tup ys) K := ⟨.tup (xs ++ ys), by show (if xs.length + ys.length ≤ 1000 then some (D.tup (xs ++ ys)) else none) = _; rw [if_pos hl], h⟩
theorem Bn.of {o : Op} {x y z : D} {K : D → Prop} (h : binop o x y = some z) (q : K z) : Bn o x y K := ⟨z, h, q⟩
theorem Ix.of {xs : List D} {i : Int} {x z : D} {K : D → Prop} (n : Nat) (hx : items S x = some xs) (hi : i = (n : Int)) (h : xs[n]? = some z) (q : K z) : Ix S x (.int i) K := ⟨xs, i, z, hx, rfl, by rw [hi]; exact at_nat h, q⟩
theorem Ix.neg {xs : List D} {x z : D} {i : Int} {K : D → Prop} (n : Nat) (hx : items S x = some xs) (hi : i = (n : Int) - (xs.length : Int)) (hn : n < xs.length) (h : xs[n]? = some z) (q : K z) : Ix S x (.int i) K := ⟨xs, i, z, hx, rfl, by
  unfold at_ ixN
  rw [if_neg (by omega), if_pos (by omega), Option.bind_some, hi]
  have : ((n : Int) - (xs.length : Int) + (xs.length : Int)).toNat = n := by omega
  rw [this, h], q⟩
theorem Bo.mk {b : Bool} {A B : Prop} (h1 : b = true → A) (h2 : b = false → B) : Bo (.bl b) A B := ⟨b, rfl, h1, h2⟩
theorem Bo.t {A B : Prop} (h1 : A) : Bo (.bl true) A B := ⟨true, rfl, fun _ => h1, fun h => Bool.noConfusion h⟩
theorem Bo.f {A B : Prop} (h1 : B) : Bo (.bl false) A B := ⟨false, rfl, fun h => Bool.noConfusion h, fun _ => h1⟩
end
section
variable {P : Prog} {k : Nat} {ρ : Env} {S : Store} {N : Env → Store → Prop} {T : D → Store → Prop} {C : Env → Store → Prop} {X : Exc → Env → Store → Prop}
/-! statements -/
theorem Og.stp {r : R D} {f : D → Store → Option Out} (h : Rp r (fun v S => Og (f v S) N T C X) (fun x S => X x ρ S)) : Og (stp ρ r f) N T C X := by
  cases r with
  | none => exact h
  | some r => cases r with
    | ok a S => exact h
    | ex x S => exact h
theorem Og.sq {o : Option Out} {f : Env → Store → Option Out} (h : Og o (fun ρ S => Og (f ρ S) N T C X) T C X) : Og (sq o f) N T C X := by
  cases o with
  | none => exact h
  | some o => cases o <;> exact h
theorem Wb.nil (h : N ρ S) : Wb P k .nil ρ S N T C X := .mk fun d => by rw [execs]; exact h
theorem Wb.cons {s : RG.S} {b : Ss} (h : Ws P k s ρ S (fun ρ S => Wb P k b ρ S N T C X) T C X) : Wb P k (.cons s b) ρ S N T C X := .mk fun d => by
  rw [execs_cons]
  exact Og.sq ((h.1 d).mono (fun _ _ h => h.1 d) (fun _ _ h => h) (fun _ _ h => h) (fun _ _ _ h => h))
theorem Ws.set {i : Nat} {e : E} (h : We P k e ρ S (fun v S => N (ρ.set i (some v)) S) (fun x S => X x ρ S)) : Ws P k (.set i e) ρ S N T C X := .mk fun d => by
  rw [exec]; exact Og.stp (h.1 d)
theorem Ws.par {is : List Nat} {es : Es} (h : Wes P k es ρ S (fun vs S => ∃ ρ', setAll is vs ρ = some ρ' ∧ N ρ' S) (fun x S => X x ρ S)) : Ws P k (.par is es) ρ S N T C X := .mk fun d => by
  rw [exec]
  have h := h.1 d
  cases e : evs P (callF P (d + k)) es ρ S with
  | none => rw [e] at h; exact h
  | some r => cases r with
    | ok a S =>
      rw [e] at h
      obtain ⟨ρ', e2, h⟩ := h
      dsimp only
      rw [e2]; exact h
    | ex x S => rw [e] at h; exact h
theorem Ws.unp {t : Tg} {e : E} (h : We P k e ρ S (fun v S => ∃ ρ', bind S t v ρ = some ρ' ∧ N ρ' S) (fun x S => X x ρ S)) : Ws P k (.unp t e) ρ S N T C X := .mk fun d => by
  rw [exec]
  refine Og.stp ((h.1 d).mono (fun v S h => ?_) fun _ _ h => h)
  obtain ⟨ρ', e, h⟩ := h
  rw [e]; exact h
theorem Ws.sub {l i e : E} (h : We P k e ρ S (fun v S => We P k l ρ S (fun x S => We P k i ρ S (fun y S => ∃ a j xs n, x = .ref a ∧ y = .int j ∧ S[a]? = some (.lst xs) ∧ v.lt a = true ∧ ixN xs.length j = some n ∧ N ρ (S.set a (.lst (xs.set n v)))) (fun x S => X x ρ S)) (fun x S => X x ρ S)) (fun x S => X x ρ S)) : Ws P k (.sub l i e) ρ S N T C X := .mk fun d => by
  rw [exec]
  refine Og.stp ((h.1 d).mono (fun v S h => Og.stp ((h.1 d).mono (fun x S h => Og.stp ((h.1 d).mono (fun y S h => ?_) fun _ _ h => h)) fun _ _ h => h)) fun _ _ h => h)
  obtain ⟨a, j, xs, n, rfl, rfl, e1, e2, e3, h⟩ := h
  dsimp only
  rw [e1]
  dsimp only
  rw [if_pos e2, e3]
  exact h
theorem Ws.aug_sub {i : Nat} {e : E} {x : Int} (hx : ρ[i]? = some (some (.int x))) (h : We P k e ρ S (fun v S => ∃ y, v = .int y ∧ N (ρ.set i (some (.int (x - y)))) S) (fun x S => X x ρ S)) : Ws P k (.aug i .sub e) ρ S N T C X := .mk fun d => by
  rw [exec, hx]
  refine Og.stp ((h.1 d).mono (fun v S h => ?_) fun _ _ h => h)
  obtain ⟨y, rfl, h⟩ := h
  exact h
theorem Ws.aug_add {i : Nat} {e : E} {x : Int} (hx : ρ[i]? = some (some (.int x))) (h : We P k e ρ S (fun v S => ∃ y, v = .int y ∧ N (ρ.set i (some (.int (x + y)))) S) (fun x S => X x ρ S)) : Ws P k (.aug i .add e) ρ S N T C X := .mk fun d => by
  rw [exec, hx]
  refine Og.stp ((h.1 d).mono (fun v S h => ?_) fun _ _ h => h)
  obtain ⟨y, rfl, h⟩ := h
  exact h
theorem Ws.app {l e : E} (h : We P k l ρ S (fun x S => ∃ a xs0, x = .ref a ∧ S[a]? = some (.lst xs0) ∧ We P k e ρ S (fun v S => ∃ xs, S[a]? = some (.lst xs) ∧ v.lt a = true ∧ xs.length < 100000 ∧ N ρ (S.set a (.lst (xs ++ [v])))) (fun x S => X x ρ S)) (fun x S => X x ρ S)) : Ws P k (.app l e) ρ S N T C X := .mk fun d => by
  rw [exec]
  refine Og.stp ((h.1 d).mono (fun x S h => ?_) fun _ _ h => h)
  obtain ⟨a, xs0, rfl, e0, h⟩ := h
  dsimp only
  rw [e0]
  refine Og.stp ((h.1 d).mono (fun v S h => ?_) fun _ _ h => h)
  obtain ⟨xs, e1, e2, e3, h⟩ := h
  rw [e1]
  dsimp only
  rw [e2, Bool.true_and, if_pos (_root_.decide_eq_true e3)]
  exact h
theorem Ws.pop {l : E} (h : We P k l ρ S (fun x S => ∃ a xs, x = .ref a ∧ S[a]? = some (.lst xs) ∧ 0 < xs.length ∧ N ρ (S.set a (.lst xs.dropLast))) (fun x S => X x ρ S)) : Ws P k (.pop l) ρ S N T C X := .mk fun d => by
  rw [exec]
  refine Og.stp ((h.1 d).mono (fun x S h => ?_) fun _ _ h => h)
  obtain ⟨a, xs, rfl, e1, e2, h⟩ := h
  dsimp only
  rw [e1]
  dsimp only
  rw [if_pos e2]
  exact h
theorem Ws.ife {c : E} {a b : Ss} (h : We P k c ρ S (fun x S => Bo x (Wb P k a ρ S N T C X) (Wb P k b ρ S N T C X)) (fun x S => X x ρ S)) : Ws P k (.ife c a b) ρ S N T C X := .mk fun d => by
  rw [exec]
  refine Og.stp ((h.1 d).mono (fun x S h => ?_) fun _ _ h => h)
  obtain ⟨i, rfl, h1, h2⟩ := h
  cases i with
  | true => exact (h1 rfl).1 d
  | false => exact (h2 rfl).1 d
theorem Ws.ret {e : E} (h : We P k e ρ S T (fun x S => X x ρ S)) : Ws P k (.ret e) ρ S N T C X := .mk fun d => by
  rw [exec]; exact Og.stp (h.1 d)
theorem Ws.retN (h : T .non S) : Ws P k .retN ρ S N T C X := .mk fun d => by
  rw [exec]; exact h
theorem Ws.cont (h : C ρ S) : Ws P k .cont ρ S N T C X := .mk fun d => by
  rw [exec]; exact h
theorem Ws.pass (h : N ρ S) : Ws P k .pass ρ S N T C X := .mk fun d => by
  rw [exec]; exact h
theorem Ws.expr {e : E} (h : We P k e ρ S (fun _ S => N ρ S) (fun x S => X x ρ S)) : Ws P k (.expr e) ρ S N T C X := .mk fun d => by
  rw [exec]; exact Og.stp (h.1 d)
theorem Ws.raise {c : Nat} {e : E} (h : We P k e ρ S (fun v S => X ⟨c, v⟩ ρ S) (fun x S => X x ρ S)) : Ws P k (.raise c e) ρ S N T C X := .mk fun d => by
  rw [exec]; exact Og.stp (h.1 d)
/-- what an exception comes to at the clauses of a try -/
structure Wh (P : Prog) (k : Nat) (hs : Hs) (x : Exc) (ρ : Env) (S : Store) (N : Env → Store → Prop) (T : D → Store → Prop) (C : Env → Store → Prop) (X : Exc → Env → Store → Prop) : Prop where
  h : ∀ d, Og (handle P (callF P (d + k)) hs x ρ S) N T C X
theorem Ws.try_ {b : Ss} {hs : Hs} (h : Wb P k b ρ S N T C (fun x ρ S => Wh P k hs x ρ S N T C X)) : Ws P k (.try_ b hs) ρ S N T C X := .mk fun d => by
  rw [exec]
  have h := h.1 d
  cases e : execs P (callF P (d + k)) b ρ S with
  | none => rw [e] at h; exact h
  | some o =>
    rw [e] at h
    cases o with
    | ex x ρ S => exact h.1 d
    | nx ρ S => exact h
    | rt v S => exact h
    | ct ρ S => exact h
theorem Wh.here {x : Exc} {c : Nat} {b : Ss} {r : Hs} (hs : P.sub x.cls c = true) (h : Wb P k b ρ S N T C X) : Wh P k (.cons c none b r) x ρ S N T C X := .mk fun d => by
  rw [handle, if_pos hs]; exact h.1 d
theorem Wh.next {x : Exc} {c : Nat} {i : Option Nat} {b : Ss} {r : Hs} (hs : P.sub x.cls c = false) (h : Wh P k r x ρ S N T C X) : Wh P k (.cons c i b r) x ρ S N T C X := .mk fun d => by
  cases i <;> rw [handle, if_neg (by rw [hs]; intro z; cases z)] <;> exact h.1 d
theorem Wh.out {x : Exc} (h : X x ρ S) : Wh P k .nil x ρ S N T C X := .mk fun d => by
  rw [handle]; exact h
/-- a for: an invariant by the number of turns -/
theorem Ws.for_ {t : Tg} {it : It} {b : Ss} (I : Nat → Env → Store → Prop) (xs : List D) (g : Guard) (h : Wi P k it ρ S (fun ys g' S => ys = xs ∧ g' = g ∧ I 0 ρ S) (fun x S => X x ρ S))
    (step : ∀ i x ρ S, xs[i]? = some x → I i ρ S → ∃ ρ1, bind S t x ρ = some ρ1 ∧ Wb P k b ρ1 S (fun ρ S => g.ok S = true ∧ I (i + 1) ρ S) T (fun ρ S => g.ok S = true ∧ I (i + 1) ρ S) X)
    (done : ∀ ρ S, I xs.length ρ S → N ρ S) : Ws P k (.for_ t it b) ρ S N T C X := .mk fun d => by
  rw [exec]
  have h := h.1 d
  cases e : evIt P (callF P (d + k)) it ρ S with
  | none => rw [e] at h; exact h
  | some r => cases r with
    | ex x S => rw [e] at h; exact h
    | ok p S =>
      rw [e] at h
      obtain ⟨h1, h2, h0⟩ := h
      obtain ⟨ys, g'⟩ := p
      dsimp only at h1 h2 ⊢
      subst h1 h2
      have key : ∀ (zs : List D) (i : Nat) (ρ : Env) (S : Store), i ≤ ys.length → ys.drop i = zs → I i ρ S → Og (forGo t g' (fun ρ S => execs P (callF P (d + k)) b ρ S) zs ρ S) N T C X := by
        intro zs
        induction zs with
        | nil =>
          intro i ρ S hi hd hI
          have hl : ys.length ≤ i := List.drop_eq_nil_iff.mp hd
          have e : i = ys.length := Nat.le_antisymm hi hl
          subst e
          rw [forGo]
          exact done _ _ hI
        | cons z zs ih =>
          intro i ρ S _ hd hI
          have hi : i < ys.length := by
            apply Nat.lt_of_not_le
            intro q
            rw [List.drop_eq_nil_of_le q] at hd
            cases hd
          have hx : ys[i]? = some z := by
            have := List.drop_eq_getElem_cons hi
            rw [hd] at this
            rw [List.getElem?_eq_getElem hi, (List.cons.inj this).1]
          have hdr : ys.drop (i + 1) = zs := by
            have := List.drop_eq_getElem_cons hi
            rw [hd] at this
            exact ((List.cons.inj this).2).symm
          obtain ⟨ρ1, hb, hw⟩ := step i z ρ S hx hI
          have hw := hw.1 d
          rw [forGo, hb]
          dsimp only
          cases eb : execs P (callF P (d + k)) b ρ1 S with
          | none => rw [eb] at hw; exact hw
          | some o =>
            rw [eb] at hw
            cases o with
            | nx ρ S =>
              obtain ⟨hg, hI⟩ := hw
              dsimp only
              rw [if_pos hg]
              exact ih (i + 1) ρ S hi hdr hI
            | ct ρ S =>
              obtain ⟨hg, hI⟩ := hw
              dsimp only
              rw [if_pos hg]
              exact ih (i + 1) ρ S hi hdr hI
            | rt v S => exact hw
            | ex x ρ S => exact hw
      exact key ys 0 ρ S (Nat.zero_le _) rfl h0
/-- a while: an invariant with a number that falls -/
theorem Ws.whl {c : E} {b : Ss} (I : Nat → Env → Store → Prop) (n : Nat) (h0 : I n ρ S)
    (step : ∀ n ρ S, I n ρ S → We P k c ρ S (fun x S => Bo x (Wb P k b ρ S (fun ρ S => ∃ m, m < n ∧ I m ρ S) T (fun ρ S => ∃ m, m < n ∧ I m ρ S) X) (N ρ S)) (fun x S => X x ρ S)) : Ws P k (.whl c b) ρ S N T C X := by
  induction n using Nat.strongRecOn generalizing ρ S with
  | ind n ih =>
    refine .mk fun d => ?_
    rw [exec]
    have hs := (step n ρ S h0).1 d
    cases e : ev P (callF P (d + k)) c ρ S with
    | none => rw [e] at hs; exact hs.elim
    | some r => cases r with
      | ex x S' =>
        rw [e] at hs
        rw [loop_stop (b := .ex x ρ S') (by simp only [e])]
        exact hs
      | ok v S' =>
        rw [e] at hs
        obtain ⟨q, rfl, h1, h2⟩ := hs
        cases q with
        | false =>
          rw [loop_stop (b := .nx ρ S') (by simp only [e])]
          exact h2 rfl
        | true =>
          have hb := (h1 rfl).1 d
          cases eb : execs P (callF P (d + k)) b ρ S' with
          | none => rw [eb] at hb; exact hb.elim
          | some o =>
            rw [eb] at hb
            cases o with
            | nx ρ2 S2 =>
              obtain ⟨m, hm, hI⟩ := hb
              rw [loop_next (a' := (ρ2, S2)) (by simp only [e, eb])]
              have := (ih m hm hI).1 d
              rw [exec] at this
              exact this
            | ct ρ2 S2 =>
              obtain ⟨m, hm, hI⟩ := hb
              rw [loop_next (a' := (ρ2, S2)) (by simp only [e, eb])]
              have := (ih m hm hI).1 d
              rw [exec] at this
              exact this
            | rt v S2 =>
              rw [loop_stop (b := .rt v S2) (by simp only [e, eb])]
              exact hb
            | ex x ρ2 S2 =>
              rw [loop_stop (b := .ex x ρ2 S2) (by simp only [e, eb])]
              exact hb
/-- a def by its body -/
theorem Wc.of {f n s : Nat} {b : Ss} {ro : Bool} {args : List D} {Q : D → Store → Prop} {X : Exc → Store → Prop} (hf : P.fn f = some ⟨n, s, b, ro⟩) (hn : args.length = n) (hs : n ≤ s)
    (h : Wb P k b (args.map some ++ List.replicate (s - n) none) S (fun _ S' => Q .non (S'.take S.length)) (fun v S' => Rp (retv ro S.length v S') Q X) (fun _ _ => False) (fun x _ S' => x.arg.lt 0 = true ∧ X x (S'.take S.length))) : Wc P (k + 1) f args S Q X := .mk fun d => by
  rw [show d + (k + 1) = d + k + 1 by omega, call_eq hf hn hs]
  have h := h.1 d
  cases e : execs P (callF P (d + k)) b (args.map some ++ List.replicate (s - n) none) S with
  | none => rw [e] at h; exact h
  | some o =>
    rw [e] at h
    cases o with
    | nx ρ S' => exact h
    | rt v S' => exact h
    | ct ρ S' => exact h.elim
    | ex x ρ S' =>
      show Rp (if x.arg.lt 0 then some (.ex x (S'.take S.length)) else none) Q X
      rw [if_pos h.1]
      exact h.2
theorem Rt.lt {ro : Bool} {n : Nat} {v : D} {S : Store} {Q : D → Store → Prop} {X : Exc → Store → Prop} (h : v.lt n = true) (q : Q v (S.take n)) : Rp (retv ro n v S) Q X := by
  unfold retv
  rw [if_pos h]
  exact q
/-- a comprehension: an invariant by the number of turns and what is made -/
theorem Wl.comp {X : Exc → Store → Prop} {Q : List D → Store → Prop} {own : List Nat} {tg : Tg} {it : It} {c elt : E} (I : Nat → List D → Store → Prop) (xs : List D) (g : Guard) (h : Wi P k it ρ S (fun ys g' S => ys = xs ∧ g' = g ∧ I 0 [] S) X)
    (step : ∀ i x acc S, xs[i]? = some x → I i acc S → ∃ ρ1, bind S tg x (wipe ρ own) = some ρ1 ∧ We P k c ρ1 S (fun t S => Bo t (We P k elt ρ1 S (fun y S => acc.length < 100000 ∧ g.ok S = true ∧ I (i + 1) (acc ++ [y]) S) (fun _ _ => False)) (g.ok S = true ∧ I (i + 1) acc S)) (fun _ _ => False))
    (done : ∀ acc S, I xs.length acc S → Q acc S) : Wl P k (.comp own tg it c elt) ρ S Q X := .mk fun d => by
  rw [evL]
  refine Rp.bd ((h.1 d).mono (fun p S h => ?_) fun _ _ h => h)
  obtain ⟨h1, h2, h0⟩ := h
  obtain ⟨ys, g'⟩ := p
  dsimp only at h1 h2 ⊢
  subst h1 h2
  have key : ∀ (zs : List D) (i : Nat) (acc : List D) (S : Store), i ≤ ys.length → ys.drop i = zs → I i acc S → Rp (foldR (fun (acc : List D) (x : D) (S : Store) => match bind S tg x (wipe ρ own) with
      | none => none
      | some ρ2 => gd g' (bnd (ev P (callF P (d + k)) c ρ2 S) fun t S => match t with
        | .bl true => bnd (ev P (callF P (d + k)) elt ρ2 S) fun y S => if acc.length < 100000 then RG.ret (acc ++ [y]) S else none
        | .bl false => RG.ret acc S
        | _ => none)) zs acc S) Q (fun _ _ => False) := by
    intro zs
    induction zs with
    | nil =>
      intro i acc S hi hd hI
      have hl : ys.length ≤ i := List.drop_eq_nil_iff.mp hd
      have e : i = ys.length := Nat.le_antisymm hi hl
      subst e
      rw [foldR]
      exact done _ _ hI
    | cons z zs ih =>
      intro i acc S _ hd hI
      have hi : i < ys.length := by
        apply Nat.lt_of_not_le
        intro q
        rw [List.drop_eq_nil_of_le q] at hd
        cases hd
      have hx : ys[i]? = some z := by
        have := List.drop_eq_getElem_cons hi
        rw [hd] at this
        rw [List.getElem?_eq_getElem hi, (List.cons.inj this).1]
      have hdr : ys.drop (i + 1) = zs := by
        have := List.drop_eq_getElem_cons hi
        rw [hd] at this
        exact ((List.cons.inj this).2).symm
      obtain ⟨ρ1, hb, hw⟩ := step i z acc S hx hI
      rw [foldR, hb]
      dsimp only
      refine Rp.bd ?_
      unfold gd
      refine Rp.bd (Rp.bd ((hw.1 d).mono (fun t S h => ?_) fun _ _ h => h))
      obtain ⟨q, rfl, h1, h2⟩ := h
      cases q with
      | true =>
        refine Rp.bd (((h1 rfl).1 d).mono (fun y S h => ?_) fun _ _ h => h)
        obtain ⟨h3, h4, h5⟩ := h
        rw [if_pos h3]
        show Rp (if g'.ok S then RG.ret (acc ++ [y]) S else none) _ _
        rw [if_pos h4]
        exact ih (i + 1) _ S hi hdr h5
      | false =>
        obtain ⟨h4, h5⟩ := h2 rfl
        show Rp (if g'.ok S then RG.ret acc S else none) _ _
        rw [if_pos h4]
        exact ih (i + 1) _ S hi hdr h5
  have := key ys 0 [] S (Nat.zero_le _) rfl h0
  revert this
  generalize foldR (α := List D) _ _ _ _ = r
  intro this
  cases r with
  | none => exact this
  | some r => cases r with
    | ok a S => exact this
    | ex x S => exact this.elim
end
end RG
set_option Elab.async false
set_option linter.all false
set_option maxRecDepth 100000
/-! The law's draws. -/
namespace RG
open PySem Lean.Grind
local macro_rules | `(tactic| infer_instance) => `(tactic| first
  | refine Wb.cons ?_ | refine Wb.nil ?_ | refine Ws.set ?_ | refine Ws.ret ?_ | refine Ws.ife ?_ | refine Ws.sub ?_ | refine Ws.par ?_ | refine Ws.unp ?_ | refine Ws.pass ?_ | refine Ws.cont ?_ | refine Ws.retN ?_ | refine Ws.expr ?_ | refine Ws.app ?_
  | refine We.var rfl ?_ | refine We.lit ?_ | refine We.bin ?_ | refine We.idx ?_ | refine We.call ?_ | refine We.tup ?_ | refine We.bi ?_ | refine We.and ?_ | refine We.or ?_ | refine We.not ?_ | refine We.ite ?_ | refine We.neg ?_ | refine We.isN ?_ | refine We.own ?_ | refine We.frz ?_
  | refine Wes.cons ?_ | refine Wes.nil ?_ | refine Wl.disp ?_
  | refine Bn.add ?_ | refine Bn.sub ?_ | refine Bn.lt ?_ | refine Bn.le ?_ | refine Bn.gt ?_ | refine Bn.ge ?_ | refine Bn.eqI ?_ | refine Bn.neI ?_ | refine Bo.t ?_ | refine Bo.f ?_ | refine Bo.mk ?_ ?_ | refine ⟨_, rfl, ?_⟩)
theorem items_ref {S : Store} {i : Nat} {xs : List D} (h : S[i]? = some (.lst xs)) : items S (.ref i) = some xs := by
  show (match S[i]? with
    | some (.lst xs) => some xs
    | _ => none) = _
  rw [h]
theorem litems_rf {S : Store} {i : Nat} {xs : List D} (h : S[i]? = some (.lst xs)) : litems S (.ref i) = some xs := by
  show (match S[i]? with
    | some (.lst xs) => some xs
    | _ => none) = _
  rw [h]
/-- one draw: what is drawn, the seed's rest, the chain's number -/
def tk (m : Nat) (s : Nat × Nat) : Nat × (Nat × Nat) := if 0 < s.1 then (s.1 % m, (s.1 / m, s.2)) else ((((s.2 * 48271 + 11) % 2147483647) / 7) % m, (s.1, (s.2 * 48271 + 11) % 2147483647))
def stc (s : Nat × Nat) : Cell := .lst [.int (s.1 : Int), .int (s.2 : Int)]
theorem get_lt {S : Store} {i : Nat} {c : Cell} (h : S[i]? = some c) : i < S.length := by
  rcases Nat.lt_or_ge i S.length with z | z
  · exact z
  · rw [List.getElem?_eq_none z] at h; cases h
theorem take_w {P : Prog} (h94 : P.fn 94 = some F94) {S : Store} {i m : Nat} {s : Nat × Nat} {X : Exc → Store → Prop} {Q : D → Store → Prop} (hS : S[i]? = some (stc s)) (hm : 0 < m) (hz : m < 1000000)
    (q : Q (.int ((tk m s).1 : Int)) (S.set i (stc (tk m s).2))) : Wc P 1 94 [.ref i, .int (m : Int)] S Q X := by
  have hi := get_lt hS
  have hit := items_ref hS
  have hd : divOk (m : Int) = true := by
    unfold divOk
    rw [Bool.and_eq_true]
    refine ⟨_root_.decide_eq_true (by omega), _root_.decide_eq_true ?_⟩
    rw [Int.natAbs_natCast]
    have h1 : m ≠ 0 := by omega
    have := (Nat.log2_lt h1 (k := 20)).mpr (by omega)
    omega
  refine Wc.of h94 rfl (by decide) ?_
  repeat infer_instance
  refine Ix.of 0 hit rfl rfl ?_
  repeat infer_instance
  · intro h0
    have hp : 0 < s.1 := by have := _root_.of_decide_eq_true h0; omega
    have et : tk m s = (s.1 % m, (s.1 / m, s.2)) := by unfold tk; rw [if_pos hp]
    rw [et] at q
    repeat infer_instance
    refine Ix.of 0 hit rfl rfl ?_
    repeat infer_instance
    refine Bn.mod (by omega) ?_
    rw [fmod_nat]
    repeat infer_instance
    refine Ix.of 0 hit rfl rfl ?_
    repeat infer_instance
    refine Bn.fdv hd ?_
    rw [fdiv_nat]
    repeat infer_instance
    refine ⟨_, _, _, _, rfl, rfl, hS, rfl, rfl, ?_⟩
    repeat infer_instance
    refine Rt.lt rfl ?_
    rw [List.take_of_length_le (by rw [List.length_set]; omega)]
    exact q
  · intro h0
    have hp : s.1 = 0 := by have := _root_.of_decide_eq_false h0; omega
    have et : tk m s = ((((s.2 * 48271 + 11) % 2147483647) / 7) % m, (s.1, (s.2 * 48271 + 11) % 2147483647)) := by unfold tk; rw [if_neg (by omega)]
    rw [et] at q
    repeat infer_instance
    refine Ix.of 1 hit rfl rfl ?_
    repeat infer_instance
    refine Bn.mul (by unfold bitsOk; simp) ?_
    repeat infer_instance
    have e1 : ((s.2 : Int) * 48271 + 11).fmod 2147483647 = (((s.2 * 48271 + 11) % 2147483647 : Nat) : Int) := by
      have := fmod_nat (s.2 * 48271 + 11) 2147483647
      rw [← this]
      rfl
    rw [e1]
    generalize (s.2 * 48271 + 11) % 2147483647 = b' at q ⊢
    repeat infer_instance
    refine ⟨_, _, _, _, rfl, rfl, hS, rfl, rfl, ?_⟩
    have hS2 : (S.set i (.lst ([D.int (s.1 : Int), .int (s.2 : Int)].set 1 (.int (b' : Int)))))[i]? = some (.lst [.int (s.1 : Int), .int (b' : Int)]) := by
      rw [List.getElem?_set_self hi]; rfl
    repeat infer_instance
    refine Ix.of 1 (items_ref hS2) rfl rfl ?_
    repeat infer_instance
    have e2 : (b' : Int).fdiv 7 = ((b' / 7 : Nat) : Int) := fdiv_nat b' 7
    rw [e2]
    repeat infer_instance
    refine Bn.mod (by omega) ?_
    rw [fmod_nat]
    repeat infer_instance
    refine Rt.lt rfl ?_
    rw [List.take_of_length_le (by rw [List.length_set]; omega)]
    exact q
end RG
set_option Elab.async false
set_option linter.all false
set_option maxRecDepth 100000
/-! Fields by what must hold behind. -/
namespace RG
open PySem Lean.Grind
section
variable {P : Prog} {k : Nat} {ρ : Env} {S : Store} {Q : D → Store → Prop} {X : Exc → Store → Prop}
theorem Ev.vr {i : Nat} {d : D} (h : ρ[i]? = some (some d)) : Ev P k (.var i) ρ d := fun _ _ => ev_var h
theorem Wes.one {e : E} {Q : List D → Store → Prop} (h : We P k e ρ S (fun v S => Q [v] S) X) : Wes P k (.cons e .nil) ρ S Q X := Wes.cons (h.mono (fun _ _ h => Wes.nil h) fun _ _ h => h)
end
section
variable {P : Prog} {α : Type} [Field α] [DecidableEq α] (F : Fc P α) {k : Nat} {ρ : Env} {S : Store} {Q : D → Store → Prop} {X : Exc → Store → Prop} {o : E} {es : Es}
theorem Fc.w0 (hk : F.k0 ≤ k) (ho : ρ[0]? = some (some F.fo)) (q : Q (F.enc 0) S) : We P k (.meth (.var 0) 5 .nil) ρ S Q X := by
  obtain ⟨f, h1, h2, h3⟩ := F.zero
  refine We.meth (Ev.var ho) h1 h2 (Wes.nil (.mk fun d => Rp.of_eq ?_ q))
  have := h3 (d + (k - F.k0)) S
  rwa [show d + (k - F.k0) + F.k0 = d + k by omega] at this
theorem Fc.w1 (hk : F.k0 ≤ k) (ho : ρ[0]? = some (some F.fo)) (q : Q (F.enc 1) S) : We P k (.meth (.var 0) 3 .nil) ρ S Q X := by
  obtain ⟨f, h1, h2, h3⟩ := F.one
  refine We.meth (Ev.var ho) h1 h2 (Wes.nil (.mk fun d => Rp.of_eq ?_ q))
  have := h3 (d + (k - F.k0)) S
  rwa [show d + (k - F.k0) + F.k0 = d + k by omega] at this
theorem Fc.wmul {x y : E} (hk : F.k0 ≤ k) (ho : ρ[0]? = some (some F.fo)) (h : We P k x ρ S (fun v S => ∃ a, v = F.enc a ∧ We P k y ρ S (fun w S => ∃ b, w = F.enc b ∧ Q (F.enc (a * b)) S) X) X) : We P k (.meth (.var 0) 4 (.cons x (.cons y .nil))) ρ S Q X := by
  obtain ⟨f, h1, h2, h3⟩ := F.mul
  refine We.meth (Ev.var ho) h1 h2 (Wes.cons (h.mono (fun v S h => ?_) fun _ _ h => h))
  obtain ⟨a, rfl, h⟩ := h
  refine Wes.cons (h.mono (fun v S h => ?_) fun _ _ h => h)
  obtain ⟨b, rfl, h⟩ := h
  refine Wes.nil (.mk fun d => Rp.of_eq ?_ h)
  have := h3 (d + (k - F.k0)) S a b
  rwa [show d + (k - F.k0) + F.k0 = d + k by omega] at this
theorem Fc.winv {x : E} (hk : F.k0 ≤ k) (ho : ρ[0]? = some (some F.fo)) (h : We P k x ρ S (fun v S => ∃ a, v = F.enc a ∧ a ≠ 0 ∧ Q (F.enc a⁻¹) S) X) : We P k (.meth (.var 0) 6 (.cons x .nil)) ρ S Q X := by
  obtain ⟨f, h1, h2, h3⟩ := F.inv
  refine We.meth (Ev.var ho) h1 h2 (Wes.cons (h.mono (fun v S h => ?_) fun _ _ h => h))
  obtain ⟨a, rfl, ha, h⟩ := h
  refine Wes.nil (.mk fun d => Rp.of_eq ?_ h)
  have := h3 (d + (k - F.k0)) S a ha
  rwa [show d + (k - F.k0) + F.k0 = d + k by omega] at this
/-- rational((2, 1)) is two -/
def Fc.Two (F : Fc P α) : Prop := ∃ f, P.meth F.c 8 = some f ∧ F.ks.contains 8 = false ∧ Fnv P (F.k0 + 2) f [F.fo, .tup [.int 2, .int 1]] (F.enc (1 + 1))
theorem Fc.wtwo (ht : F.Two) (hk : F.k0 + 2 ≤ k) (ho : ρ[0]? = some (some F.fo)) (q : Q (F.enc (1 + 1)) S) : We P k (.meth (.var 0) 8 (.cons (.tup (.cons (.lit (.int 2)) (.cons (.lit (.int 1)) .nil))) .nil)) ρ S Q X := by
  obtain ⟨f, h1, h2, h3⟩ := ht
  exact We.meth (Ev.var ho) h1 h2 (Wes.one (We.tup (Wes.cons (We.lit (Wes.one (We.lit (h3.w hk q)))))))
end
/-- a list by its cell -/
theorem Wsub {P : Prog} {k : Nat} {ρ : Env} {S0 S : Store} {N : Env → Store → Prop} {T : D → Store → Prop} {C : Env → Store → Prop} {X : Exc → Env → Store → Prop} {l i : Nat} {e : E} {xs : List D} {n : Nat} {j : Int} (hS : S = S0 ++ [.lst xs]) (hl : ρ[l]? = some (some (.ref S0.length))) (hi : ρ[i]? = some (some (.int j))) (hj : j = (n : Int)) (hn : n < xs.length)
    (h : We P k e ρ S (fun v S' => S' = S ∧ v.lt S0.length = true ∧ N ρ (S0 ++ [.lst (xs.set n v)])) (fun x S => X x ρ S)) : Ws P k (.sub (.var l) (.var i) e) ρ S N T C X := by
  refine Ws.sub (h.mono (fun v S' h => ?_) fun _ _ h => h)
  obtain ⟨rfl, hv, h⟩ := h
  refine We.var hl (We.var hi ⟨_, _, xs, n, rfl, rfl, by rw [hS]; exact cell_at _ _, hv, ?_, ?_⟩)
  · unfold ixN
    rw [if_pos (by omega), if_pos (by omega)]
    congr 1
    omega
  · rw [hS, cell_set]
    exact h
theorem rng_down {h : Nat} : rng ((h : Int) - 1) (-1) (-1) = (List.range h).map fun (j : Nat) => D.int ((h : Int) - 1 - j) := by
  unfold rng
  rw [if_neg (by decide), if_pos rfl]
  have : ((h : Int) - 1 - -1).toNat = h := by omega
  rw [this]
theorem rng_up {a b : Nat} : rng (a : Int) (b : Int) 1 = (List.range (b - a)).map fun (j : Nat) => D.int ((a + j : Nat) : Int) := by
  unfold rng
  rw [if_pos rfl]
  have : ((b : Int) - (a : Int)).toNat = b - a := by omega
  rw [this]
  congr 2
theorem rng_up0 {b : Nat} : rng 0 (b : Int) 1 = (List.range b).map fun (j : Nat) => D.int (j : Int) := by
  unfold rng
  rw [if_pos rfl]
  have : ((b : Int) - 0).toNat = b := by omega
  rw [this]
  refine List.map_congr_left fun j _ => ?_
  rw [Int.zero_add]
end RG
set_option Elab.async false
set_option linter.all false
/-! The whole part of a root, coefficient by coefficient. -/
namespace RG
open Lean.Grind Poly
variable {α : Type} [Field α] [DecidableEq α]
structure RtI (R : Poly α) (h k : Nat) (os : List α) : Prop where
  len : os.length = h + 1
  top : co os h = 1
  low : ∀ j, j < k → co os j = 0
  rest : (R - of os * of os).len ≤ h + k
theorem RtI.c {R : Poly α} {h k : Nat} {os : List α} (i : RtI R h k os) : (of os).c = os := trim_of_last fun _ => by
  rw [i.len, Nat.add_sub_cancel, i.top]
  exact fun z => Field.zero_ne_one z.symm
theorem RtI.lc {R : Poly α} {h k : Nat} {os : List α} (i : RtI R h k os) : (of os).len = h + 1 ∧ (of os).lc = 1 := by
  have hl : (of os).len = h + 1 := by unfold Poly.len; rw [i.c, i.len]
  refine ⟨hl, ?_⟩
  unfold Poly.lc
  rw [hl, Nat.add_sub_cancel, co_of, i.top]
theorem rtI_0 {R : Poly α} {h : Nat} (hl : R.len = 2 * h + 1) (hc : R.lc = 1) : RtI R h h (List.replicate h 0 ++ [1]) := by
  have hm : of (List.replicate h 0 ++ [(1 : α)]) = mono h 1 := rfl
  have h1 : (1 : α) ≠ 0 := fun z => Field.zero_ne_one z.symm
  have ht : ∀ j, co (List.replicate h 0 ++ [(1 : α)]) j = if j = h then 1 else 0 := fun j => by rw [← co_of, hm, co_mono]
  have hM := len_mono (n := h) h1
  have hM0 : mono h (1 : α) ≠ 0 := ne_of_len (by rw [hM.1]; omega)
  have hMM := len_mul hM0 hM0
  refine ⟨by simp, by rw [ht, if_pos rfl], fun j hj => by rw [ht, if_neg (by omega)], ?_⟩
  rw [hm]
  refine len_le fun i hi => ?_
  rw [co_sub]
  by_cases he : i = 2 * h
  · have e1 : co R.c i = 1 := by rw [← hc]; unfold Poly.lc; rw [hl, he]; rfl
    have e2 : co (mono h (1 : α) * mono h 1).c i = 1 := by
      have : (mono h (1 : α) * mono h 1).lc = co (mono h (1 : α) * mono h 1).c i := by unfold Poly.lc; rw [hMM.1, hM.1, he]; congr 1; omega
      rw [← this, hMM.2, hM.2]; grind
    rw [e1, e2]; grind
  · rw [co_ge (p := R) (by omega), co_ge (by rw [hMM.1, hM.1]; omega)]; grind
theorem RtI.step {R : Poly α} {h k : Nat} {os : List α} (h2 : (1 : α) + 1 ≠ 0) (hk : k < h) (i : RtI R h (k + 1) os) {c : α} (hc : c = co (R - of os * of os).c (h + k) * (1 + 1)⁻¹) : RtI R h k (os.set k c) := by
  have hl := i.len
  have hco : ∀ j, co (os.set k c) j = if j = k then c else co os j := fun j => by
    unfold co
    rw [List.getD_eq_getElem?_getD, List.getD_eq_getElem?_getD, List.getElem?_set]
    by_cases hj : k = j
    · subst hj
      rw [if_pos rfl, if_pos (by omega), if_pos rfl]; rfl
    · rw [if_neg hj, if_neg (by omega)]
  have hof : of (os.set k c) = of os + mono k c := ext fun j => by
    rw [co_add, co_of, co_of, co_mono, hco]
    by_cases hj : j = k
    · subst hj
      rw [if_pos rfl, if_pos rfl, i.low _ (by omega)]; grind
    · rw [if_neg hj, if_neg hj]; grind
  have hAl := i.lc
  have hMl : (mono k c).len ≤ k + 1 := len_le fun j hj => by rw [co_mono, if_neg (by omega)]
  have hAM : (of os * mono k c).len ≤ h + k + 1 := by have := len_mul_le (of os) (mono k c); omega
  have hMM : (mono k c * mono k c).len ≤ h + k := by have := len_mul_le (mono k c) (mono k c); omega
  have htop : co (of os * mono k c).c (h + k) = c := by
    rw [co_mul]
    have := (mulL_top (of os).c (mono k c).c h k (fun j hj => co_ge (by omega)) (fun j hj => co_ge (by omega))).1
    rw [this, co_of, i.top, co_mono, if_pos rfl]; grind
  have e : R - of (os.set k c) * of (os.set k c) = (R - of os * of os) - (of os * mono k c + of os * mono k c) - mono k c * mono k c := by rw [hof]; grind
  refine ⟨by rw [List.length_set, hl], by rw [hco, if_neg (by omega), i.top], fun j hj => by rw [hco, if_neg (by omega), i.low j (by omega)], ?_⟩
  rw [e]
  refine len_le fun j hj => ?_
  rw [co_sub, co_sub, co_add, co_ge (p := mono k c * mono k c) (by omega)]
  have hr := i.rest
  by_cases he : j = h + k
  · subst he
    rw [htop, hc]
    generalize co (R - of os * of os).c (h + k) = t
    have : t * (1 + 1)⁻¹ + t * (1 + 1)⁻¹ = t := by grind
    rw [this]; grind
  · rw [co_ge (p := of os * mono k c) (by omega), co_ge (p := R - of os * of os) (by omega)]; grind
theorem RtI.fin {R : Poly α} {h : Nat} {os : List α} (hp : 0 < h) (i : RtI R h 0 os) : IsRt R (of os) h := ⟨hp, i.lc.1, i.lc.2, i.rest⟩
end RG
set_option Elab.async false
set_option linter.all false
set_option maxRecDepth 100000
/-! root_part: the program's and the law's. -/
namespace RG
open PySem Lean.Grind Poly
local macro_rules | `(tactic| infer_instance) => `(tactic| first
  | refine Wb.cons ?_ | refine Wb.nil ?_ | refine Ws.set ?_ | refine Ws.ret ?_ | refine Ws.ife ?_ | refine Ws.par ?_ | refine Ws.unp ?_ | refine Ws.pass ?_ | refine Ws.cont ?_ | refine Ws.retN ?_ | refine Ws.expr ?_
  | refine We.var rfl ?_ | refine We.lit ?_ | refine We.bin ?_ | refine We.idx ?_ | refine We.call ?_ | refine We.tup ?_ | refine We.bi ?_ | refine We.and ?_ | refine We.or ?_ | refine We.not ?_ | refine We.ite ?_ | refine We.neg ?_ | refine We.isN ?_ | refine We.own ?_ | refine We.frz ?_
  | refine Wes.cons ?_ | refine Wes.nil ?_ | refine Wl.disp ?_ | refine Wl.cat ?_ | refine Wl.rep ?_ | refine Wi.rng ?_
  | refine Bn.add ?_ | refine Bn.sub ?_ | refine Bn.lt ?_ | refine Bn.le ?_ | refine Bn.gt ?_ | refine Bn.ge ?_ | refine Bn.eqI ?_ | refine Bn.neI ?_ | refine Bo.t ?_ | refine Bo.f ?_ | refine Bo.mk ?_ ?_ | refine ⟨_, rfl, ?_⟩)
variable {P : Prog} {α : Type} [Field α] [DecidableEq α]
theorem Fc.encs_zs (F : Fc P α) (h : Nat) : (List.replicate h [F.enc 0]).flatten ++ [F.enc 1] = F.encs (List.replicate h 0 ++ [1]) := by
  unfold Fc.encs
  rw [List.map_append, List.map_replicate]
  congr 1
  induction h with
  | zero => rfl
  | succ h ih => rw [List.replicate_succ, List.flatten_cons, ih]; rfl
theorem root_w (F : Fc P α) (H : PolyOk P) (h202 : P.fn 202 = some F202) (ht : F.Two) (h2 : (1 : α) + 1 ≠ 0) {R : Poly α} {h : Nat} (hl : R.len = 2 * h + 1) (hc : R.lc = 1) (hp : 0 < h) (hz : h ≤ 1000) (S : Store) :
    Wc P (F.k0 + 4) 202 [F.fo, F.po R] S (fun v S' => S' = S ∧ ∃ A, IsRt R A h ∧ v = F.po A) (fun _ _ => False) := by
  refine Wc.of (k := F.k0 + 3) h202 rfl (by decide) ?_
  repeat infer_instance
  refine (Fc.fdeg F H.f2 R).w (by omega) ?_
  repeat infer_instance
  have e1 : ((R.len : Int) - 1).fdiv 2 = (h : Int) := by
    have := fdiv_nat (2 * h) 2
    rw [hl]
    have e : (((2 * h + 1 : Nat) : Int) - 1) = ((2 * h : Nat) : Int) := by omega
    rw [e]
    exact this.trans (by congr 1; omega)
  rw [e1]
  refine F.w0 (by omega) rfl ?_
  repeat infer_instance
  refine ⟨_, _, rfl, rfl, by simp; omega, by omega, by omega, ?_⟩
  repeat infer_instance
  refine F.w1 (by omega) rfl ?_
  repeat infer_instance
  refine ⟨_, _, rfl, rfl, by simp; omega, ?_⟩
  rw [Int.toNat_natCast, F.encs_zs]
  repeat infer_instance
  refine F.winv (by omega) rfl (F.wtwo ht (by omega) rfl ⟨_, rfl, h2, ?_⟩)
  repeat infer_instance
  refine Ws.for_ (fun i ρ S' => ∃ os v5 v6, RtI R h (h - i) os ∧ ρ = [some F.fo, some (F.po R), some (.int (h : Int)), some (.ref S.length), some (F.enc (1 + 1)⁻¹), v5, v6] ∧ S' = S ++ [.lst (F.encs os)]) ((List.range h).map fun (j : Nat) => D.int ((h : Int) - 1 - j)) none ?_ ?_ ?_
  · repeat infer_instance
    refine ⟨_, _, rfl, rfl, _root_.decide_eq_true ⟨by omega, by omega, by omega, by omega⟩, ?_⟩
    exact ⟨rng_down, rfl, _, _, _, rtI_0 hl hc, rfl, rfl⟩
  · rintro i x ρ S' hx ⟨os, v5, v6, hI, rfl, rfl⟩
    obtain ⟨hi, rfl⟩ := range_get hx
    have hI' : RtI R h ((h - 1 - i) + 1) os := by rwa [show (h - 1 - i) + 1 = h - i by omega]
    have hj : ((h : Int) - 1 - (i : Int)) = ((h - 1 - i : Nat) : Int) := by omega
    generalize hjj : h - 1 - i = j at hI' hj
    rw [hj]
    have hpo : F.po (of os) = .tup (F.encs os) := by show F.pl (of os).c = _; rw [hI.c]; rfl
    have hlen := hI.lc.1
    refine ⟨_, rfl, ?_⟩
    repeat infer_instance
    refine ⟨_, by show (items _ _).map D.tup = _; rw [items_cell]; rfl, ?_⟩
    repeat infer_instance
    refine ⟨_, by show (items _ _).map D.tup = _; rw [items_cell]; rfl, ?_⟩
    repeat infer_instance
    rw [← hpo]
    refine (F.fmul H.f1 H.f8 H.f9 (of os) (of os) (by omega)).w (by omega) ?_
    repeat infer_instance
    refine (F.fsub H.f1 H.f5 H.f6 H.f7 R _ (by have := len_mul_le (of os) (of os); omega)).w (by omega) ?_
    have hlt := hI.rest
    generalize hL : R - of os * of os = lf at hlt ⊢
    have hcc : ∀ c, c = co lf.c (h + j) * (1 + 1)⁻¹ → RtI R h j (os.set j c) := fun c hc' => hI'.step h2 (by omega) (by rw [hL]; exact hc')
    repeat infer_instance
    · intro hb
      have hb' : h + j < lf.c.length := by have := _root_.of_decide_eq_true hb; rw [F.encs_len] at this; omega
      repeat infer_instance
      refine Wsub (S0 := S) (xs := F.encs os) (n := j) rfl rfl rfl rfl (by rw [F.encs_len, hI.len]; omega) (F.wmul (by omega) rfl ?_)
      repeat infer_instance
      refine Ix.of (h + j) rfl (by omega) (F.encs_get hb') ⟨_, rfl, ?_⟩
      refine We.var rfl ⟨_, rfl, rfl, F.lt0 _ _, ?_⟩
      repeat infer_instance
      refine ⟨rfl, _, _, _, by rw [show h - (i + 1) = j by omega]; exact hcc _ rfl, rfl, by rw [F.encs_set, co_get hb']⟩
    · intro hb
      have hb' : lf.len ≤ h + j := by have := _root_.of_decide_eq_false hb; rw [F.encs_len] at this; unfold Poly.len; omega
      repeat infer_instance
      have h0 := hcc 0 (by rw [co_ge hb']; grind)
      have e0 : os.set j 0 = os := by
        have hj0 : j < os.length := by rw [hI.len]; omega
        have := hI'.low j (by omega)
        rw [← co_get hj0] at this
        rw [← this, List.set_getElem_self]
      rw [e0] at h0
      exact ⟨rfl, _, _, _, by rw [show h - (i + 1) = j by omega]; exact h0, rfl, rfl⟩
  · rintro ρ S' ⟨os, v5, v6, hI, rfl, rfl⟩
    rw [List.length_map, List.length_range, Nat.sub_self] at hI
    repeat infer_instance
    refine ⟨_, by show (items _ _).map D.tup = _; rw [items_cell]; rfl, ?_⟩
    have hpo : F.po (of os) = .tup (F.encs os) := by show F.pl (of os).c = _; rw [hI.c]; rfl
    rw [← hpo]
    refine Rt.lt (F.po_lt _ _) ⟨take_cell _ _, _, hI.fin hp, rfl⟩
theorem Fc.froot (F : Fc P α) (H : PolyOk P) (h202 : P.fn 202 = some F202) (ht : F.Two) (h2 : (1 : α) + 1 ≠ 0) {R : Poly α} {h : Nat} (hl : R.len = 2 * h + 1) (hc : R.lc = 1) (hp : 0 < h) (hz : h ≤ 1000) :
    ∃ A, IsRt R A h ∧ Fnv P (F.k0 + 4) 202 [F.fo, F.po R] (F.po A) := by
  have w := root_w F H h202 ht h2 hl hc hp hz
  have hA : ∃ A, IsRt R A h := by
    have := (w []).1 0
    unfold Rp at this
    split at this
    · exact ⟨_, this.2.choose_spec.1⟩
    · exact this.elim
    · exact this.elim
  obtain ⟨A, hA⟩ := hA
  refine ⟨A, hA, Wc.fnv fun S => (w S).mono (fun v S' h => ?_) fun _ _ h => h⟩
  obtain ⟨h1, B, hB, rfl⟩ := h
  rw [hA.unique h2 hB]
  exact ⟨rfl, h1⟩
theorem Lf.encs_zs (F : Lf P α) (h : Nat) : (List.replicate h [F.enc 0]).flatten ++ [F.enc 1] = F.encs (List.replicate h 0 ++ [1]) := by
  unfold Lf.encs
  rw [List.map_append, List.map_replicate]
  congr 1
  induction h with
  | zero => rfl
  | succ h ih => rw [List.replicate_succ, List.flatten_cons, ih]; rfl
theorem lroot_w (F : Lf P α) (H : LpOk P) (h211 : P.fn 211 = some F211) (h2 : (1 : α) + 1 ≠ 0) {R : Poly α} {h : Nat} (hl : R.len = 2 * h + 1) (hc : R.lc = 1) (hp : 0 < h) (hz : h ≤ 1000) (S : Store) :
    Wc P (F.k0 + 4) 211 [F.mo, F.po R] S (fun v S' => S' = S ∧ ∃ A, IsRt R A h ∧ v = F.po A) (fun _ _ => False) := by
  refine Wc.of (k := F.k0 + 3) h211 rfl (by decide) ?_
  repeat infer_instance
  have e1 : (((F.encs R.c).length : Int) - 1).fdiv 2 = (h : Int) := by
    have := fdiv_nat (2 * h) 2
    have hl' : (F.encs R.c).length = 2 * h + 1 := by rw [F.encs_len]; exact hl
    rw [hl']
    have e : (((2 * h + 1 : Nat) : Int) - 1) = ((2 * h : Nat) : Int) := by omega
    rw [e]
    exact this.trans (by congr 1; omega)
  rw [e1]
  refine F.nul.w (by omega) ?_
  repeat infer_instance
  refine ⟨_, _, rfl, rfl, by simp; omega, by omega, by omega, ?_⟩
  repeat infer_instance
  refine F.one.w (by omega) ?_
  repeat infer_instance
  refine ⟨_, _, rfl, rfl, by simp; omega, ?_⟩
  rw [Int.toNat_natCast, F.encs_zs]
  repeat infer_instance
  have e2 : (nat 2 : α) = 1 + 1 := by show (0 : α) + 1 + 1 = 1 + 1; grind
  refine (F.int 2).w (by omega) ?_
  rw [e2]
  repeat infer_instance
  refine (F.inv (1 + 1) h2).w (by omega) ?_
  repeat infer_instance
  refine Ws.for_ (fun i ρ S' => ∃ os v5 v6 v7, RtI R h (h - i) os ∧ ρ = [some F.mo, some (F.po R), some (.int (h : Int)), some (.ref S.length), some (F.enc (1 + 1)⁻¹), v5, v6, v7] ∧ S' = S ++ [.lst (F.encs os)]) ((List.range h).map fun (j : Nat) => D.int ((h : Int) - 1 - j)) none ?_ ?_ ?_
  · repeat infer_instance
    refine ⟨_, _, rfl, rfl, _root_.decide_eq_true ⟨by omega, by omega, by omega, by omega⟩, ?_⟩
    exact ⟨rng_down, rfl, _, _, _, _, rtI_0 hl hc, rfl, rfl⟩
  · rintro i x ρ S' hx ⟨os, v5, v6, v7, hI, rfl, rfl⟩
    obtain ⟨hi, rfl⟩ := range_get hx
    have hI' : RtI R h ((h - 1 - i) + 1) os := by rwa [show (h - 1 - i) + 1 = h - i by omega]
    have hj : ((h : Int) - 1 - (i : Int)) = ((h - 1 - i : Nat) : Int) := by omega
    generalize hjj : h - 1 - i = j at hI' hj
    rw [hj]
    have hpo : F.po (of os) = .tup (F.encs os) := by show F.pl (of os).c = _; rw [hI.c]; rfl
    have hlen := hI.lc.1
    refine ⟨_, rfl, ?_⟩
    repeat infer_instance
    refine ⟨_, by show (items _ _).map D.tup = _; rw [items_cell]; rfl, ?_⟩
    repeat infer_instance
    refine ⟨_, by show (items _ _).map D.tup = _; rw [items_cell]; rfl, ?_⟩
    repeat infer_instance
    rw [← hpo]
    refine (F.fmul H.f111 H.f115 (of os) (of os) (by omega)).w (by omega) ?_
    repeat infer_instance
    refine (F.fsub H.f111 H.f112 H.f113 H.f114 R _ (by have := len_mul_le (of os) (of os); omega)).w (by omega) ?_
    have hlt := hI.rest
    generalize hL : R - of os * of os = lf at hlt ⊢
    have hcc : ∀ c, c = co lf.c (h + j) * (1 + 1)⁻¹ → RtI R h j (os.set j c) := fun c hc' => hI'.step h2 (by omega) (by rw [hL]; exact hc')
    have last : ∀ (v : Option D), Wb P (F.k0 + 3) (.cons (.sub (.var 3) (.var 5) (.call 106 (.cons (.var 0) (.cons (.var 7) (.cons (.var 4) .nil))))) .nil) [some F.mo, some (F.po R), some (.int (h : Int)), some (.ref S.length), some (F.enc (1 + 1)⁻¹), some (.int (j : Int)), v, some (F.enc (co lf.c (h + j)))] (S ++ [.lst (F.encs os)])
        (fun ρ S' => Guard.ok none S' = true ∧ ∃ os v5 v6 v7, RtI R h (h - (i + 1)) os ∧ ρ = [some F.mo, some (F.po R), some (.int (h : Int)), some (.ref S.length), some (F.enc (1 + 1)⁻¹), v5, v6, v7] ∧ S' = S ++ [.lst (F.encs os)])
        (fun v S' => Rp (retv false S.length v S') (fun v S' => S' = S ∧ ∃ A, IsRt R A h ∧ v = F.po A) fun _ _ => False)
        (fun ρ S' => Guard.ok none S' = true ∧ ∃ os v5 v6 v7, RtI R h (h - (i + 1)) os ∧ ρ = [some F.mo, some (F.po R), some (.int (h : Int)), some (.ref S.length), some (F.enc (1 + 1)⁻¹), v5, v6, v7] ∧ S' = S ++ [.lst (F.encs os)])
        (fun x _ _ => x.arg.lt 0 = true ∧ False) := fun v => by
      repeat infer_instance
      refine Wsub (S0 := S) (xs := F.encs os) (n := j) rfl rfl rfl rfl (by rw [F.encs_len, hI.len]; omega) ?_
      repeat infer_instance
      refine (F.mul _ _).w (by omega) ⟨rfl, F.lt0 _ _, ?_⟩
      repeat infer_instance
      exact ⟨rfl, _, _, _, _, by rw [show h - (i + 1) = j by omega]; exact hcc _ rfl, rfl, by rw [F.encs_set]⟩
    repeat infer_instance
    · intro hb
      have hb' : h + j < lf.c.length := by have := _root_.of_decide_eq_true hb; rw [F.encs_len] at this; omega
      repeat infer_instance
      refine Ix.of (h + j) rfl (by omega) (F.encs_get hb') ?_
      rw [co_get hb']
      exact last _
    · intro hb
      have hb' : lf.len ≤ h + j := by have := _root_.of_decide_eq_false hb; rw [F.encs_len] at this; unfold Poly.len; omega
      repeat infer_instance
      refine F.nul.w (by omega) ?_
      have := last (some (F.po lf))
      rw [co_ge hb'] at this
      exact this
  · rintro ρ S' ⟨os, v5, v6, v7, hI, rfl, rfl⟩
    rw [List.length_map, List.length_range, Nat.sub_self] at hI
    repeat infer_instance
    refine ⟨_, by show (items _ _).map D.tup = _; rw [items_cell]; rfl, ?_⟩
    have hpo : F.po (of os) = .tup (F.encs os) := by show F.pl (of os).c = _; rw [hI.c]; rfl
    rw [← hpo]
    refine Rt.lt (F.po_lt _ _) ⟨take_cell _ _, _, hI.fin hp, rfl⟩
theorem Lf.froot (F : Lf P α) (H : LpOk P) (h211 : P.fn 211 = some F211) (h2 : (1 : α) + 1 ≠ 0) {R A : Poly α} {h : Nat} (hl : R.len = 2 * h + 1) (hc : R.lc = 1) (hA : IsRt R A h) (hz : h ≤ 1000) :
    Fnv P (F.k0 + 4) 211 [F.mo, F.po R] (F.po A) := by
  refine Wc.fnv fun S => (lroot_w F H h211 h2 hl hc hA.pos hz S).mono (fun v S' h => ?_) fun _ _ h => h
  obtain ⟨h1, B, hB, rfl⟩ := h
  rw [hA.unique h2 hB]
  exact ⟨rfl, h1⟩
end RG
set_option Elab.async false
set_option linter.all false
/-! The chain as a sequence. -/
namespace RG
open Lean.Grind Poly
variable {α : Type} [Field α] [DecidableEq α]
open Classical in
/-- quotient and rest -/
noncomputable def dv (p q : Poly α) : Poly α × Poly α := if h : q ≠ 0 then ((div_exists q h p.len p (Nat.le_refl _)).choose, (div_exists q h p.len p (Nat.le_refl _)).choose_spec.choose) else (0, p)
theorem dv_spec {p q : Poly α} (h : q ≠ 0) : p = (dv p q).1 * q + (dv p q).2 ∧ (dv p q).2.len < q.len := by
  unfold dv
  rw [dif_pos h]
  exact (div_exists q h p.len p (Nat.le_refl _)).choose_spec.choose_spec
theorem dv_eq {p q a r : Poly α} (e : p = a * q + r) (h : r.len < q.len) : dv p q = (a, r) := by
  have hq : q ≠ 0 := ne_of_len (by omega)
  obtain ⟨h1, h2⟩ := dv_spec (p := p) hq
  obtain ⟨e1, e2⟩ := div_unique (h1.symm.trans e) h2 h
  exact Prod.ext e1 e2
structure CS (α : Type) [Field α] [DecidableEq α] where
  P : Poly α
  Q : Poly α
  p : Poly α
  q : Poly α
  p' : Poly α
  q' : Poly α
section
variable (R A : Poly α)
noncomputable def csA (c : CS α) : Poly α := (dv (c.P + A) c.Q).1
noncomputable def csN (c : CS α) : CS α :=
  ⟨csA A c * c.Q - c.P, (dv (R - (csA A c * c.Q - c.P) * (csA A c * c.Q - c.P)) c.Q).1, csA A c * c.p + c.p', csA A c * c.q + c.q', c.p, c.q⟩
noncomputable def cs : Nat → CS α
  | 0 => ⟨0, 1, 1, 0, 0, 1⟩
  | n + 1 => csN R A (cs n)
end
/-- what holds of each state -/
structure CsOk (R A : Poly α) (h n : Nat) : Prop where
  rt : IsRt R A h
  h2 : (1 : α) + 1 ≠ 0
  qn : (cs R A n).Q ≠ 0
  ex : (R - (csA A (cs R A n) * (cs R A n).Q - (cs R A n).P) * (csA A (cs R A n) * (cs R A n).Q - (cs R A n).P)) = (cs R A (n + 1)).Q * (cs R A n).Q
  dvd : ∃ Z, R - (cs R A n).P * (cs R A n).P = Z * (cs R A n).Q
  nw : ∃ s : Poly α, s * s = 1 ∧ (cs R A n).p * (cs R A n).p - R * ((cs R A n).q * (cs R A n).q) = s * (cs R A n).Q
  pl : (cs R A n).P.len ≤ h + 1
  ql : (cs R A n).Q.len ≤ h + 1
  al : (csA A (cs R A n)).len ≤ h + 1
  pz : (cs R A n).p.len ≤ 1 + n * h
  qz : (cs R A n).q.len ≤ 1 + n * h
  nz : 0 < (cs R A n).p.len
  pos : 1 ≤ n → (cs R A n).P.len = h + 1 ∧ (cs R A n).P.lc = 1 ∧ (cs R A n).Q.len ≤ h ∧ Led h ((cs R A n).p, (cs R A n).q)
theorem quo_len {a q b : Poly α} {n : Nat} (ha : a ≠ 0) (hq : q ≠ 0) (e : a * q = b) (hb : b.len ≤ n) : a.len ≤ n := by
  have := (len_mul ha hq).1
  rw [e] at this
  have := len_pos hq
  omega
theorem cs_ok {R A : Poly α} {h : Nat} (rt : IsRt R A h) (ns : ∀ N : Poly α, R - N * N ≠ 0) (h2 : (1 : α) + 1 ≠ 0) (n : Nat) : CsOk R A h n := by
  have hAl := rt.len
  have hp := rt.pos
  have ho := one_lc (α := α)
  -- the states, with what goes before
  have main : ∀ n, ∃ Z s, ChnD R A h (cs R A (n + 1)).P (cs R A (n + 1)).Q Z s (cs R A (n + 1)).p (cs R A (n + 1)).q (cs R A (n + 1)).p' (cs R A (n + 1)).q' ∧ (cs R A (n + 1)).p.len ≤ 1 + (n + 1) * h := by
    have first : cs R A 1 = ⟨A, R - A * A, A, 1, 1, 0⟩ := by
      show csN R A ⟨0, 1, 1, 0, 0, 1⟩ = _
      have ea : csA A (⟨0, 1, 1, 0, 0, 1⟩ : CS α) = A := by
        show (dv (0 + A) 1).1 = A
        rw [dv_eq (a := A) (r := 0) (by grind) (by rw [len_0, ho.1]; omega)]
      unfold csN
      rw [ea]
      have eN : A * 1 - 0 = A := by grind
      simp only [eN]
      rw [dv_eq (p := R - A * A) (q := 1) (a := R - A * A) (r := 0) (by grind) (by rw [len_0, ho.1]; omega)]
      have e1 : A * 1 + 0 = A := by grind
      have e2 : A * 0 + 1 = (1 : Poly α) := by grind
      rw [e1, e2]
    intro n
    induction n with
    | zero =>
      obtain ⟨Q', e, c⟩ := Chn.first rt ns
      have : Q' = R - A * A := by grind
      subst this
      rw [first]
      exact ⟨_, _, c, by show A.len ≤ _; omega⟩
    | succ n ih =>
      obtain ⟨Z, s, c, hz⟩ := ih
      generalize hc : cs R A (n + 1) = x at c hz
      have hqn := c.c.qn
      obtain ⟨e, hr⟩ := dv_spec (p := x.P + A) hqn
      obtain ⟨Q', e1, c', e2, ha2⟩ := c.step h2 e hr
      have hq' : (dv (R - (csA A x * x.Q - x.P) * (csA A x * x.Q - x.P)) x.Q).1 = Q' := by
        rw [dv_eq (a := Q') (r := 0) (by show R - ((dv (x.P + A) x.Q).1 * x.Q - x.P) * ((dv (x.P + A) x.Q).1 * x.Q - x.P) = _; rw [e1]; grind) (by rw [len_0]; exact len_pos hqn)]
      have hn : cs R A (n + 1 + 1) = ⟨csA A x * x.Q - x.P, Q', csA A x * x.p + x.p', csA A x * x.q + x.q', x.p, x.q⟩ := by
        show csN R A (cs R A (n + 1)) = _
        rw [hc]
        unfold csN
        rw [hq']
      rw [hn]
      refine ⟨_, _, c', ?_⟩
      have ha0 : (dv (x.P + A) x.Q).1 ≠ 0 := ne_of_len (by omega)
      have hal : (dv (x.P + A) x.Q).1.len ≤ h + 1 := quo_len (b := x.P + A - (dv (x.P + A) x.Q).2) ha0 hqn (by grind) (by
        have h1 := len_sub_le (x.P + A) (dv (x.P + A) x.Q).2
        have h3 := len_add_le x.P A
        have h4 := c.pl
        have h5 := c.ql
        omega)
      show (csA A x * x.p + x.p').len ≤ _
      have : (csA A x * x.p + x.p').len = _ := e2
      rw [this, Nat.add_mul (n + 1) 1 h, Nat.one_mul]
      omega
  have exact_ : ∀ n, (cs R A n).Q ≠ 0 → (∃ Q', R - (csA A (cs R A n) * (cs R A n).Q - (cs R A n).P) * (csA A (cs R A n) * (cs R A n).Q - (cs R A n).P) = Q' * (cs R A n).Q) → R - (csA A (cs R A n) * (cs R A n).Q - (cs R A n).P) * (csA A (cs R A n) * (cs R A n).Q - (cs R A n).P) = (cs R A (n + 1)).Q * (cs R A n).Q := by
    intro n hq ⟨Q', e⟩
    have : (cs R A (n + 1)).Q = Q' := by
      show (csN R A (cs R A n)).Q = Q'
      unfold csN
      show (dv (R - (csA A (cs R A n) * (cs R A n).Q - (cs R A n).P) * (csA A (cs R A n) * (cs R A n).Q - (cs R A n).P)) (cs R A n).Q).1 = Q'
      rw [dv_eq (a := Q') (r := 0) (by rw [e]; grind) (by rw [len_0]; exact len_pos hq)]
    rw [this]; exact e
  have step : ∀ n, (∃ Z s, Chn R A h (cs R A n).P (cs R A n).Q Z s (cs R A n).p (cs R A n).q (cs R A n).p' (cs R A n).q') → (∃ Q', R - (csA A (cs R A n) * (cs R A n).Q - (cs R A n).P) * (csA A (cs R A n) * (cs R A n).Q - (cs R A n).P) = Q' * (cs R A n).Q) := by
    intro n ⟨Z, s, c⟩
    obtain ⟨e, hr⟩ := dv_spec (p := (cs R A n).P + A) c.qn
    obtain ⟨Q', e1, _⟩ := c.step e
    exact ⟨Q', e1⟩
  have alen : ∀ n, (cs R A n).Q ≠ 0 → (cs R A n).P.len ≤ h + 1 → (csA A (cs R A n)).len ≤ h + 1 := by
    intro n hq hpl
    by_cases h0 : csA A (cs R A n) = 0
    · rw [h0, len_0]; omega
    · obtain ⟨e, hr⟩ := dv_spec (p := (cs R A n).P + A) hq
      by_cases hz : ((cs R A n).P + A).len < (cs R A n).Q.len
      · have : csA A (cs R A n) = 0 := by
          show (dv ((cs R A n).P + A) (cs R A n).Q).1 = 0
          rw [dv_eq (a := 0) (r := (cs R A n).P + A) (by grind) hz]
        rw [this, len_0]; omega
      · refine quo_len (b := (cs R A n).P + A - (dv ((cs R A n).P + A) (cs R A n).Q).2) h0 hq (by show (dv ((cs R A n).P + A) (cs R A n).Q).1 * _ = _; grind) ?_
        have h1 := len_sub_le ((cs R A n).P + A) (dv ((cs R A n).P + A) (cs R A n).Q).2
        have h3 := len_add_le (cs R A n).P A
        omega
  cases n with
  | zero =>
    have c : Chn R A h (cs R A 0).P (cs R A 0).Q R 1 (cs R A 0).p (cs R A 0).q (cs R A 0).p' (cs R A 0).q' := chn_0 rt ns
    refine ⟨rt, h2, c.qn, exact_ 0 c.qn (step 0 ⟨_, _, c⟩), ⟨_, c.div⟩, ⟨_, c.sg, c.nw⟩, ?_, ?_, ?_, ?_, ?_, ?_, fun z => by omega⟩
    · show (0 : Poly α).len ≤ _; rw [len_0]; omega
    · show (1 : Poly α).len ≤ _; rw [ho.1]; omega
    · exact alen 0 c.qn (by show (0 : Poly α).len ≤ _; rw [len_0]; omega)
    · show (1 : Poly α).len ≤ _; rw [ho.1]; omega
    · show (0 : Poly α).len ≤ _; rw [len_0]; omega
    · show 0 < (1 : Poly α).len; rw [ho.1]; omega
  | succ n =>
    obtain ⟨Z, s, c, hz⟩ := main n
    have h1 := c.pl
    have h3 := c.ql
    have h4 := c.len
    have h5 := c.q0
    exact ⟨rt, h2, c.c.qn, exact_ _ c.c.qn (step _ ⟨_, _, c.c⟩), ⟨_, c.c.div⟩, ⟨_, c.c.sg, c.c.nw⟩, by omega, by omega, alen _ c.c.qn (by omega), hz, by omega, by omega, fun _ => ⟨h1, c.pc, h3, h4, c.lc, h5⟩⟩
end RG
set_option Elab.async false
set_option linter.all false
set_option maxRecDepth 100000
/-! The chain: the program's defs. -/
namespace RG
open PySem Lean.Grind Poly
local macro_rules | `(tactic| infer_instance) => `(tactic| first
  | refine Wb.cons ?_ | refine Wb.nil ?_ | refine Ws.set ?_ | refine Ws.ret ?_ | refine Ws.ife ?_ | refine Ws.par ?_ | refine Ws.unp ?_ | refine Ws.pass ?_ | refine Ws.cont ?_ | refine Ws.retN ?_ | refine Ws.expr ?_
  | refine We.var rfl ?_ | refine We.lit ?_ | refine We.bin ?_ | refine We.idx ?_ | refine We.call ?_ | refine We.tup ?_ | refine We.bi ?_ | refine We.and ?_ | refine We.or ?_ | refine We.not ?_ | refine We.ite ?_ | refine We.neg ?_ | refine We.isN ?_ | refine We.own ?_ | refine We.frz ?_
  | refine Wes.cons ?_ | refine Wes.nil ?_ | refine Wl.disp ?_ | refine Wl.cat ?_ | refine Wl.rep ?_ | refine Wi.rng ?_ | refine Wi.seq ?_
  | refine Bn.add ?_ | refine Bn.sub ?_ | refine Bn.lt ?_ | refine Bn.le ?_ | refine Bn.gt ?_ | refine Bn.ge ?_ | refine Bn.eqI ?_ | refine Bn.neI ?_ | refine Bo.t ?_ | refine Bo.f ?_ | refine Bo.mk ?_ ?_ | refine ⟨_, rfl, ?_⟩)
theorem lts_map {β : Type} {f : β → D} {n : Nat} (h : ∀ x, (f x).lt n = true) : ∀ l : List β, D.lts n (l.map f) = true
  | [] => by show D.lts n [] = true; rw [D.lts]
  | x :: l => by
    show D.lts n (f x :: l.map f) = true
    rw [D.lts, h, lts_map h l]; rfl
theorem Wapp {P : Prog} {k : Nat} {ρ : Env} {S0 S : Store} {N : Env → Store → Prop} {T : D → Store → Prop} {C : Env → Store → Prop} {X : Exc → Env → Store → Prop} {l : Nat} {e : E} {xs : List D} (hS : S = S0 ++ [.lst xs]) (hl : ρ[l]? = some (some (.ref S0.length))) (hn : xs.length < 100000)
    (h : We P k e ρ S (fun v S' => S' = S ∧ v.lt S0.length = true ∧ N ρ (S0 ++ [.lst (xs ++ [v])])) (fun x S => X x ρ S)) : Ws P k (.app (.var l) e) ρ S N T C X := by
  refine Ws.app (We.var hl ⟨_, xs, rfl, by rw [hS]; exact cell_at _ _, h.mono (fun v S' h => ?_) fun _ _ h => h⟩)
  obtain ⟨rfl, hv, h⟩ := h
  exact ⟨xs, by rw [hS]; exact cell_at _ _, hv, hn, by rw [hS, cell_set]; exact h⟩
variable {P : Prog} {α : Type} [Field α] [DecidableEq α]
/-- the chain's defs stand in the text -/
structure ChOk (P : Prog) : Prop where
  f202 : P.fn 202 = some F202
  f203 : P.fn 203 = some F203
  f204 : P.fn 204 = some F204
  f205 : P.fn 205 = some F205
  f206 : P.fn 206 = some F206
  f207 : P.fn 207 = some F207
theorem Fc.po_one (F : Fc P α) : F.po 1 = .tup [F.enc 1] := by
  show F.pl (1 : Poly α).c = _
  have h : (1 : Poly α).c = [1] := by
    show trim [(1 : α)] = [1]
    exact trim_of_last fun _ => fun z => Field.zero_ne_one z.symm
  rw [h]; rfl
theorem Fc.ffirst (F : Fc P α) (H : ChOk P) : Fnv P (F.k0 + 1) 203 [F.fo] (F.pr (0, 1)) := by
  refine Wc.fnv fun S => Wc.of (k := F.k0) H.f203 rfl (by decide) ?_
  repeat infer_instance
  refine F.w1 (by omega) rfl ?_
  repeat infer_instance
  have e : D.tup [D.tup [], D.tup [F.enc 1]] = F.pr (0, 1) := by
    show _ = D.tup [F.po 0, F.po 1]
    rw [F.po_zero, F.po_one]
  rw [e]
  exact Rt.lt (F.pr_lt _ _) ⟨rfl, List.take_length⟩
/-- what one step gives -/
theorem Fc.fcs (F : Fc P α) (H : PolyOk P) (C : ChOk P) {R A : Poly α} {h n : Nat} (k : CsOk R A h n) (hR : R.len ≤ 10000) (hz : h ≤ 1000) :
    Fnv P (F.k0 + 4) 204 [F.fo, F.po R, F.po A, F.pr ((cs R A n).P, (cs R A n).Q)] (.tup [F.po (csA A (cs R A n)), F.pr ((cs R A (n + 1)).P, (cs R A (n + 1)).Q)]) := by
  have h1 := k.pl
  have h2 := k.ql
  have h3 := k.al
  have h4 := k.rt.len
  obtain ⟨e, hr⟩ := dv_spec (p := (cs R A n).P + A) k.qn
  have hn : (cs R A (n + 1)).P = csA A (cs R A n) * (cs R A n).Q - (cs R A n).P := rfl
  have hN : (cs R A (n + 1)).P.len ≤ 2 * h + 2 := by
    rw [hn]
    have := len_sub_le (csA A (cs R A n) * (cs R A n).Q) (cs R A n).P
    have := len_mul_le (csA A (cs R A n)) (cs R A n).Q
    omega
  have b4 := len_mul_le (cs R A (n + 1)).P (cs R A (n + 1)).P
  have b6 := len_sub_le R ((cs R A (n + 1)).P * (cs R A (n + 1)).P)
  have b1 := len_add_le (cs R A n).P A
  exact F.fnext H C.f204 R A (cs R A n).P (cs R A n).Q (csA A (cs R A n)) _ (cs R A (n + 1)).P (cs R A (n + 1)).Q e hr hn (by rw [hn]; exact k.ex) (by omega) (by omega) (by omega) (by omega) (by omega) (by omega)
noncomputable def Fc.tri (F : Fc P α) (A : Poly α) (c : CS α) : D := .tup [F.po c.P, F.po c.Q, F.po (csA A c)]
def Fc.now (F : Fc P α) (c : CS α) : D := F.pr (c.p, c.q)
theorem Fc.tri_lt (F : Fc P α) (A : Poly α) (c : CS α) (n : Nat) : (F.tri A c).lt n = true := by
  show (D.tup [F.po c.P, F.po c.Q, F.po (csA A c)]).lt n = true
  rw [D.lt, D.lts, D.lts, D.lts, D.lts, F.po_lt, F.po_lt, F.po_lt]; rfl
theorem Fc.fstates (F : Fc P α) (H : PolyOk P) (C : ChOk P) (ht : F.Two) {R A : Poly α} {h : Nat} (k : ∀ n, CsOk R A h n) (hl : R.len = 2 * h + 1) (hc : R.lc = 1) (hz : h ≤ 1000) (m : Nat) (hm : m ≤ 1000) :
    Fnv P (F.k0 + 5) 206 [F.fo, F.po R, .int (m : Int)] (.tup ((List.range m).map fun n => F.tri A (cs R A n))) := by
  obtain ⟨B, hB, hroot⟩ := F.froot H C.f202 ht (k 0).h2 hl hc (k 0).rt.pos hz
  rw [← (k 0).rt.unique (k 0).h2 hB] at hroot
  refine Wc.fnv fun S => Wc.of (k := F.k0 + 4) C.f206 rfl (by decide) ?_
  repeat infer_instance
  refine hroot.w (by omega) ?_
  repeat infer_instance
  refine (F.ffirst C).w (by omega) ?_
  repeat infer_instance
  refine Ws.for_ (fun i ρ S' => ∃ v6 v7 v8, ρ = [some F.fo, some (F.po R), some (.int (m : Int)), some (F.po A), some (F.pr ((cs R A i).P, (cs R A i).Q)), some (.ref S.length), v6, v7, v8] ∧ S' = S ++ [.lst ((List.range i).map fun n => F.tri A (cs R A n))]) ((List.range m).map fun (j : Nat) => D.int (j : Int)) none ?_ ?_ ?_
  · repeat infer_instance
    exact ⟨_, _, rfl, rfl, _root_.decide_eq_true ⟨by omega, by omega, by omega, by omega⟩, rng_up0, rfl, _, _, _, rfl, rfl⟩
  · rintro i x ρ S' hx ⟨v6, v7, v8, rfl, rfl⟩
    obtain ⟨hi, rfl⟩ := range_get hx
    refine ⟨_, rfl, ?_⟩
    repeat infer_instance
    refine (F.fcs H C (k i) (by omega) hz).w (by omega) ⟨_, rfl, ?_⟩
    refine Wb.cons (Wapp rfl rfl (by simp; omega) ?_)
    repeat infer_instance
    refine Ix.of 0 rfl rfl rfl ?_
    repeat infer_instance
    refine Ix.of 1 rfl rfl rfl ?_
    repeat infer_instance
    refine ⟨rfl, F.tri_lt A (cs R A i) _, ?_⟩
    repeat infer_instance
    exact ⟨rfl, _, _, _, rfl, by rw [List.range_succ, List.map_append]; rfl⟩
  · rintro ρ S' ⟨v6, v7, v8, rfl, rfl⟩
    rw [List.length_map, List.length_range]
    repeat infer_instance
    refine ⟨_, by show (items _ _).map D.tup = _; rw [items_cell]; rfl, ?_⟩
    exact Rt.lt (by rw [D.lt]; exact lts_map (fun n => F.tri_lt _ _ _) _) ⟨rfl, take_cell _ _⟩
end RG
set_option Elab.async false
set_option linter.all false
set_option maxRecDepth 100000
/-! Units: the program's defs. -/
namespace RG
open PySem Lean.Grind Poly
local macro_rules | `(tactic| infer_instance) => `(tactic| first
  | refine Wb.cons ?_ | refine Wb.nil ?_ | refine Ws.set ?_ | refine Ws.ret ?_ | refine Ws.ife ?_ | refine Ws.par ?_ | refine Ws.unp ?_ | refine Ws.pass ?_ | refine Ws.cont ?_ | refine Ws.retN ?_ | refine Ws.expr ?_
  | refine We.var rfl ?_ | refine We.lit ?_ | refine We.bin ?_ | refine We.idx ?_ | refine We.call ?_ | refine We.tup ?_ | refine We.bi ?_ | refine We.and ?_ | refine We.or ?_ | refine We.not ?_ | refine We.ite ?_ | refine We.neg ?_ | refine We.isN ?_ | refine We.own ?_ | refine We.frz ?_
  | refine Wes.cons ?_ | refine Wes.nil ?_ | refine Wl.disp ?_ | refine Wl.cat ?_ | refine Wl.rep ?_ | refine Wi.rng ?_ | refine Wi.seq ?_
  | refine Bn.add ?_ | refine Bn.sub ?_ | refine Bn.lt ?_ | refine Bn.le ?_ | refine Bn.gt ?_ | refine Bn.ge ?_ | refine Bn.eqI ?_ | refine Bn.neI ?_ | refine Bo.t ?_ | refine Bo.f ?_ | refine Bo.mk ?_ ?_ | refine ⟨_, rfl, ?_⟩)
variable {P : Prog} {α : Type} [Field α] [DecidableEq α]
theorem Fc.fpairs (F : Fc P α) (H : PolyOk P) (C : ChOk P) (ht : F.Two) {R A : Poly α} {h : Nat} (k : ∀ n, CsOk R A h n) (hl : R.len = 2 * h + 1) (hc : R.lc = 1) (hz : h ≤ 10) (m : Nat) (hm : m ≤ 1000) :
    Fnv P (F.k0 + 6) 207 [F.fo, F.po R, .int (m : Int)] (.tup ((List.range m).map fun n => F.now (cs R A (n + 1)))) := by
  refine Wc.fnv fun S => Wc.of (k := F.k0 + 5) C.f207 rfl (by decide) ?_
  repeat infer_instance
  refine F.w1 (by omega) rfl ?_
  repeat infer_instance
  refine F.w1 (by omega) rfl ?_
  repeat infer_instance
  have e0 : D.tup [D.tup [F.enc 1], D.tup []] = F.pr (1, 0) := by
    show _ = D.tup [F.po 1, F.po 0]
    rw [F.po_zero, F.po_one]
  have e1 : D.tup [D.tup [], D.tup [F.enc 1]] = F.pr (0, 1) := by
    show _ = D.tup [F.po 0, F.po 1]
    rw [F.po_zero, F.po_one]
  rw [e0, e1]
  refine Ws.for_ (fun i ρ S' => ∃ v6 v7, ρ = [some F.fo, some (F.po R), some (.int (m : Int)), some (F.pr ((cs R A i).p, (cs R A i).q)), some (F.pr ((cs R A i).p', (cs R A i).q')), some (.ref S.length), v6, v7] ∧ S' = S ++ [.lst ((List.range i).map fun n => F.now (cs R A (n + 1)))]) ((List.range m).map fun n => F.tri A (cs R A n)) none ?_ ?_ ?_
  · repeat infer_instance
    refine (F.fstates H C ht k hl hc (by omega) m hm).w (by omega) ?_
    exact ⟨_, rfl, rfl, rfl, _, _, rfl, rfl⟩
  · rintro i x ρ S' hx ⟨v6, v7, rfl, rfl⟩
    obtain ⟨hi, rfl⟩ := range_get hx
    have k1 := (k i).pz
    have k2 := (k i).qz
    have k3 := (k i).al
    have k4 : i * h ≤ 1000 * 10 := Nat.mul_le_mul (by omega) hz
    refine ⟨_, rfl, ?_⟩
    repeat infer_instance
    refine (F.fnpr H C.f205 (csA A (cs R A i)) ((cs R A i).p, (cs R A i).q) ((cs R A i).p', (cs R A i).q') (by show _ + (cs R A i).p.len ≤ _; omega) (by show _ + (cs R A i).q.len ≤ _; omega)).w (by omega) ⟨_, rfl, ?_⟩
    refine Wb.cons (Wapp rfl rfl (by simp; omega) ?_)
    repeat infer_instance
    refine ⟨rfl, F.pr_lt _ _, ?_⟩
    repeat infer_instance
    exact ⟨rfl, _, _, rfl, by rw [List.range_succ, List.map_append]; rfl⟩
  · rintro ρ S' ⟨v6, v7, rfl, rfl⟩
    rw [List.length_map, List.length_range]
    repeat infer_instance
    refine ⟨_, by show (items _ _).map D.tup = _; rw [items_cell]; rfl, ?_⟩
    exact Rt.lt (by rw [D.lt]; exact lts_map (fun n => F.pr_lt _ _) _) ⟨rfl, take_cell _ _⟩
/-- the first state behind the first whose Q is a constant -/
structure FirstC (R A : Poly α) (N : Nat) : Prop where
  pos : 1 ≤ N
  at_ : (cs R A N).Q.len = 1
  bef : ∀ n, 1 ≤ n → n < N → (cs R A n).Q.len ≠ 1
theorem Fc.funit (F : Fc P α) (H : PolyOk P) (C : ChOk P) (h215 : P.fn 215 = some F215) (ht : F.Two) {R A : Poly α} {h : Nat} (k : ∀ n, CsOk R A h n) (hl : R.len = 2 * h + 1) (hc : R.lc = 1) (hz : h ≤ 10) {N : Nat} (hN : FirstC R A N) (hm : N ≤ 1000) :
    Fnv P (F.k0 + 5) 215 [F.fo, F.po R, .non] (F.now (cs R A N)) := by
  obtain ⟨B, hB, hroot⟩ := F.froot H C.f202 ht (k 0).h2 hl hc (k 0).rt.pos (by omega)
  rw [← (k 0).rt.unique (k 0).h2 hB] at hroot
  refine Wc.fnv fun S => Wc.of (k := F.k0 + 4) h215 rfl (by decide) ?_
  repeat infer_instance
  refine hroot.w (by omega) ?_
  repeat infer_instance
  refine (F.ffirst C).w (by omega) ?_
  repeat infer_instance
  refine F.w1 (by omega) rfl ?_
  repeat infer_instance
  refine F.w1 (by omega) rfl ?_
  repeat infer_instance
  have e0 : D.tup [D.tup [F.enc 1], D.tup []] = F.pr (1, 0) := by
    show _ = D.tup [F.po 1, F.po 0]
    rw [F.po_zero, F.po_one]
  have e1 : D.tup [D.tup [], D.tup [F.enc 1]] = F.pr (0, 1) := by
    show _ = D.tup [F.po 0, F.po 1]
    rw [F.po_zero, F.po_one]
  rw [e0, e1]
  refine Ws.whl (fun n ρ S' => ∃ i v7, n = N - i ∧ i < N ∧ ρ = [some F.fo, some (F.po R), some .non, some (F.po A), some (F.pr ((cs R A i).P, (cs R A i).Q)), some (F.pr ((cs R A i).p, (cs R A i).q)), some (F.pr ((cs R A i).p', (cs R A i).q')), v7] ∧ S' = S) N ?_ ?_
  · exact ⟨0, _, rfl, hN.pos, rfl, rfl⟩
  · rintro n ρ S' ⟨i, v7, rfl, hi, rfl, rfl⟩
    have k1 := (k i).pz
    have k2 := (k i).qz
    have k3 := (k i).al
    have k4 : i * h ≤ 1000 * 10 := Nat.mul_le_mul (by omega) hz
    repeat infer_instance
    refine (F.fcs H C (k i) (by omega) (by omega)).w (by omega) ⟨_, rfl, ?_⟩
    repeat infer_instance
    refine (F.fnpr H C.f205 (csA A (cs R A i)) ((cs R A i).p, (cs R A i).q) ((cs R A i).p', (cs R A i).q') (by show _ + (cs R A i).p.len ≤ _; omega) (by show _ + (cs R A i).q.len ≤ _; omega)).w (by omega) ⟨_, rfl, ?_⟩
    repeat infer_instance
    refine Ix.of 1 rfl rfl rfl ?_
    repeat infer_instance
    refine (Fc.fdeg F H.f2 (cs R A (i + 1)).Q).w (by omega) ?_
    repeat infer_instance
    · intro hb
      have hq : (cs R A (i + 1)).Q.len = 1 := by
        have := eq_of_beq hb
        omega
      have hiN : i + 1 = N := by
        by_cases z : i + 1 = N
        · exact z
        · exact absurd hq (hN.bef (i + 1) (by omega) (by omega))
      repeat infer_instance
      subst hiN
      exact Rt.lt (F.pr_lt _ _) ⟨rfl, List.take_length⟩
    · intro hb
      have hq : (cs R A (i + 1)).Q.len ≠ 1 := fun z => by
        rw [z] at hb
        cases hb
      have hiN : i + 1 ≠ N := fun z => by
        rw [z] at hq
        exact hq hN.at_
      repeat infer_instance
      exact ⟨N - (i + 1), by omega, i + 1, _, rfl, by omega, rfl, rfl⟩
theorem Fc.fisu (F : Fc P α) (H : PolyOk P) (h208 : P.fn 208 = some F208) (h216 : P.fn 216 = some F216) (R p q : Poly α) (hR : R.len ≤ 1000) (hp : p.len ≤ 40000) (hq : q.len ≤ 40000) :
    Fnv P (F.k0 + 5) 216 [F.fo, F.po R, F.po p, F.po q] (.bl (decide (0 < q.len) && decide ((p * p - R * (q * q)).len = 1))) := by
  have b1 := len_mul_le q q
  have b2 := len_mul_le R (q * q)
  refine Wc.fnv fun S => Wc.of (k := F.k0 + 4) h216 rfl (by decide) ?_
  repeat infer_instance
  · intro hb
    have hq0 : 0 < q.len := by have := _root_.of_decide_eq_true hb; rw [F.encs_len] at this; unfold Poly.len; omega
    repeat infer_instance
    refine (F.fnorm H.f1 H.f5 H.f6 H.f7 H.f8 H.f9 h208 R p q (by omega) (by omega) (by omega) (by omega)).w (by omega) ?_
    repeat infer_instance
    refine (Fc.fdeg F H.f2 _).w (by omega) ?_
    repeat infer_instance
    refine Rt.lt rfl ⟨?_, List.take_length⟩
    rw [_root_.decide_eq_true hq0, Bool.true_and]
    congr 1
    rw [Bool.eq_iff_iff, beq_iff_eq, decide_eq_true_iff]
    omega
  · intro hb
    have hq0 : ¬ 0 < q.len := by have := _root_.of_decide_eq_false hb; rw [F.encs_len] at this; unfold Poly.len; omega
    refine Rt.lt rfl ⟨?_, List.take_length⟩
    rw [_root_.decide_eq_false hq0, Bool.false_and]
/-- the powers of p + q s -/
def upow (R : Poly α) (x : Poly α × Poly α) : Nat → Poly α × Poly α
  | 0 => (1, 0)
  | k + 1 => upr R (upow R x k) x
theorem Fc.fupow (F : Fc P α) (H : PolyOk P) (h221 : P.fn 221 = some F221) (h222 : P.fn 222 = some F222) (R : Poly α) (x : Poly α × Poly α) (m : Nat) (hm : m ≤ 1000) (hR : R.len ≤ 1000) (hx : x.1.len ≤ 10000 ∧ x.2.len ≤ 10000) (hu : ∀ i, i < m → (upow R x i).1.len ≤ 40000 ∧ (upow R x i).2.len ≤ 40000) :
    Fnv P (F.k0 + 4) 222 [F.fo, F.po R, F.pr x, .int (m : Int)] (F.pr (upow R x m)) := by
  refine Wc.fnv fun S => Wc.of (k := F.k0 + 3) h222 rfl (by decide) ?_
  repeat infer_instance
  refine F.w1 (by omega) rfl ?_
  repeat infer_instance
  have e0 : D.tup [D.tup [F.enc 1], D.tup []] = F.pr (1, 0) := by
    show _ = D.tup [F.po 1, F.po 0]
    rw [F.po_zero, F.po_one]
  rw [e0]
  refine Ws.for_ (fun i ρ S' => ∃ v5, ρ = [some F.fo, some (F.po R), some (F.pr x), some (.int (m : Int)), some (F.pr (upow R x i)), v5] ∧ S' = S) ((List.range m).map fun (j : Nat) => D.int (j : Int)) none ?_ ?_ ?_
  · repeat infer_instance
    exact ⟨_, _, rfl, rfl, _root_.decide_eq_true ⟨by omega, by omega, by omega, by omega⟩, rng_up0, rfl, _, rfl, rfl⟩
  · rintro i y ρ S' hy ⟨v5, rfl, rfl⟩
    obtain ⟨hi, rfl⟩ := range_get hy
    obtain ⟨b1, b2⟩ := hu i hi
    have b3 := len_mul_le (upow R x i).2 x.2
    refine ⟨_, rfl, ?_⟩
    repeat infer_instance
    refine (F.fupr H h221 R (upow R x i) x (by omega) (by omega) (by omega) (by omega) (by omega)).w (by omega) ?_
    repeat infer_instance
    exact ⟨rfl, _, rfl, rfl⟩
  · rintro ρ S' ⟨v5, rfl, rfl⟩
    rw [List.length_map, List.length_range]
    repeat infer_instance
    exact Rt.lt (F.pr_lt _ _) ⟨rfl, List.take_length⟩
end RG
set_option Elab.async false
set_option linter.all false
set_option maxRecDepth 100000
/-! The chain: the law's defs. -/
namespace RG
open PySem Lean.Grind Poly
local macro_rules | `(tactic| infer_instance) => `(tactic| first
  | refine Wb.cons ?_ | refine Wb.nil ?_ | refine Ws.set ?_ | refine Ws.ret ?_ | refine Ws.ife ?_ | refine Ws.par ?_ | refine Ws.unp ?_ | refine Ws.pass ?_ | refine Ws.cont ?_ | refine Ws.retN ?_ | refine Ws.expr ?_
  | refine We.var rfl ?_ | refine We.lit ?_ | refine We.bin ?_ | refine We.idx ?_ | refine We.call ?_ | refine We.tup ?_ | refine We.bi ?_ | refine We.and ?_ | refine We.or ?_ | refine We.not ?_ | refine We.ite ?_ | refine We.neg ?_ | refine We.isN ?_ | refine We.own ?_ | refine We.frz ?_
  | refine Wes.cons ?_ | refine Wes.nil ?_ | refine Wl.disp ?_ | refine Wl.cat ?_ | refine Wl.rep ?_ | refine Wi.rng ?_ | refine Wi.seq ?_
  | refine Bn.add ?_ | refine Bn.sub ?_ | refine Bn.lt ?_ | refine Bn.le ?_ | refine Bn.gt ?_ | refine Bn.ge ?_ | refine Bn.eqI ?_ | refine Bn.neI ?_ | refine Bo.t ?_ | refine Bo.f ?_ | refine Bo.mk ?_ ?_ | refine ⟨_, rfl, ?_⟩)
variable {P : Prog} {α : Type} [Field α] [DecidableEq α]
def Lf.pr (F : Lf P α) (x : Poly α × Poly α) : D := .tup [F.po x.1, F.po x.2]
theorem Lf.pr_lt (F : Lf P α) (x : Poly α × Poly α) (n : Nat) : (F.pr x).lt n = true := by
  show (D.tup [F.po x.1, F.po x.2]).lt n = true
  rw [D.lt, D.lts, D.lts, D.lts, F.po_lt, F.po_lt]; rfl
theorem Lf.po_zero (F : Lf P α) : F.po (0 : Poly α) = .tup [] := by
  show F.pl (0 : Poly α).c = _
  rw [Poly.zero_c]; rfl
theorem Lf.po_one (F : Lf P α) : F.po 1 = .tup [F.enc 1] := by
  show F.pl (1 : Poly α).c = _
  have h : (1 : Poly α).c = [1] := by
    show trim [(1 : α)] = [1]
    exact trim_of_last fun _ => fun z => Field.zero_ne_one z.symm
  rw [h]; rfl
def Lf.now (F : Lf P α) (c : CS α) : D := F.pr (c.p, c.q)
noncomputable def Lf.four (F : Lf P α) (A : Poly α) (c n : CS α) : D := .tup [F.po c.P, F.po c.Q, F.po (csA A c), F.now n]
theorem Lf.four_lt (F : Lf P α) (A : Poly α) (c d : CS α) (n : Nat) : (F.four A c d).lt n = true := by
  show (D.tup [F.po c.P, F.po c.Q, F.po (csA A c), F.now d]).lt n = true
  rw [D.lt, D.lts, D.lts, D.lts, D.lts, D.lts, F.po_lt, F.po_lt, F.po_lt]
  show (true && (true && (true && ((F.pr (d.p, d.q)).lt n && true)))) = true
  rw [F.pr_lt]; rfl
/-- one turn of the law's chain, from the quotient on -/
structure Turn (F : Lf P α) (R A : Poly α) (h i : Nat) : Prop where
  quo : ∀ k, F.k0 + 4 ≤ k → Fnv P k 117 [F.mo, F.po ((cs R A i).P + A), F.po (cs R A i).Q] (.tup [F.po (csA A (cs R A i)), F.po (dv ((cs R A i).P + A) (cs R A i).Q).2])
  sum : ∀ k, F.k0 + 4 ≤ k → Fnv P k 112 [F.mo, F.po (cs R A i).P, F.po A] (F.po ((cs R A i).P + A))
  m1 : ∀ k, F.k0 + 4 ≤ k → Fnv P k 115 [F.mo, F.po (csA A (cs R A i)), F.po (cs R A i).p] (F.po (csA A (cs R A i) * (cs R A i).p))
  m2 : ∀ k, F.k0 + 4 ≤ k → Fnv P k 115 [F.mo, F.po (csA A (cs R A i)), F.po (cs R A i).q] (F.po (csA A (cs R A i) * (cs R A i).q))
  a1 : ∀ k, F.k0 + 4 ≤ k → Fnv P k 112 [F.mo, F.po (csA A (cs R A i) * (cs R A i).p), F.po (cs R A i).p'] (F.po (cs R A (i + 1)).p)
  a2 : ∀ k, F.k0 + 4 ≤ k → Fnv P k 112 [F.mo, F.po (csA A (cs R A i) * (cs R A i).q), F.po (cs R A i).q'] (F.po (cs R A (i + 1)).q)
  m3 : ∀ k, F.k0 + 4 ≤ k → Fnv P k 115 [F.mo, F.po (csA A (cs R A i)), F.po (cs R A i).Q] (F.po (csA A (cs R A i) * (cs R A i).Q))
  s3 : ∀ k, F.k0 + 4 ≤ k → Fnv P k 114 [F.mo, F.po (csA A (cs R A i) * (cs R A i).Q), F.po (cs R A i).P] (F.po (cs R A (i + 1)).P)
  m4 : ∀ k, F.k0 + 4 ≤ k → Fnv P k 115 [F.mo, F.po (cs R A (i + 1)).P, F.po (cs R A (i + 1)).P] (F.po ((cs R A (i + 1)).P * (cs R A (i + 1)).P))
  s4 : ∀ k, F.k0 + 4 ≤ k → Fnv P k 114 [F.mo, F.po R, F.po ((cs R A (i + 1)).P * (cs R A (i + 1)).P)] (F.po (R - (cs R A (i + 1)).P * (cs R A (i + 1)).P))
  q4 : ∀ k, F.k0 + 4 ≤ k → Fnv P k 117 [F.mo, F.po (R - (cs R A (i + 1)).P * (cs R A (i + 1)).P), F.po (cs R A i).Q] (.tup [F.po (cs R A (i + 1)).Q, F.po 0])
theorem cs_p' (R A : Poly α) (i : Nat) : (cs R A i).p'.len ≤ 1 + (cs R A (i - 1)).p.len ∧ (cs R A i).q'.len ≤ 1 + (cs R A (i - 1)).q.len := by
  cases i with
  | zero =>
    have ho := one_lc (α := α)
    refine ⟨?_, ?_⟩
    · show (0 : Poly α).len ≤ _; rw [len_0]; omega
    · show (1 : Poly α).len ≤ _; rw [ho.1]; omega
  | succ i =>
    refine ⟨?_, ?_⟩
    · show (cs R A i).p.len ≤ _; rw [Nat.add_sub_cancel]; omega
    · show (cs R A i).q.len ≤ _; rw [Nat.add_sub_cancel]; omega
theorem turn_ok (F : Lf P α) (H : LpOk P) {R A : Poly α} {h : Nat} (k : ∀ n, CsOk R A h n) (hR : R.len ≤ 10000) (hz : h ≤ 10) {i : Nat} (hi : i ≤ 1000) : Turn F R A h i := by
  have h1 := (k i).pl
  have h2 := (k i).ql
  have h3 := (k i).al
  have h4 := (k i).rt.len
  have h5 := (k i).pz
  have h6 := (k i).qz
  have h7 := (k (i - 1)).pz
  have h8 := (k (i - 1)).qz
  have h9 := cs_p' R A i
  have k4 : i * h ≤ 1000 * 10 := Nat.mul_le_mul hi hz
  have k5 : (i - 1) * h ≤ 1000 * 10 := Nat.mul_le_mul (by omega) hz
  have h10 := (k (i + 1)).pl
  obtain ⟨e, hr⟩ := dv_spec (p := (cs R A i).P + A) (k i).qn
  have b1 := len_add_le (cs R A i).P A
  have b2 := len_mul_le (csA A (cs R A i)) (cs R A i).p
  have b3 := len_mul_le (csA A (cs R A i)) (cs R A i).q
  have b4 := len_mul_le (csA A (cs R A i)) (cs R A i).Q
  have b5 := len_mul_le (cs R A (i + 1)).P (cs R A (i + 1)).P
  have b6 := len_sub_le R ((cs R A (i + 1)).P * (cs R A (i + 1)).P)
  have ho : (0 : Poly α).len < (cs R A i).Q.len := by rw [len_0]; exact len_pos (k i).qn
  have hN : (cs R A (i + 1)).P = csA A (cs R A i) * (cs R A i).Q - (cs R A i).P := rfl
  exact {
    quo := fun j hj => (F.fdiv H.f111 H.f117 e hr (by omega)).up (by omega)
    sum := fun j hj => (F.fadd H.f111 H.f112 _ _ (by omega)).up (by omega)
    m1 := fun j hj => (F.fmul H.f111 H.f115 _ _ (by omega)).up (by omega)
    m2 := fun j hj => (F.fmul H.f111 H.f115 _ _ (by omega)).up (by omega)
    a1 := fun j hj => (F.fadd H.f111 H.f112 _ _ (by omega)).up (by omega)
    a2 := fun j hj => (F.fadd H.f111 H.f112 _ _ (by omega)).up (by omega)
    m3 := fun j hj => (F.fmul H.f111 H.f115 _ _ (by omega)).up (by omega)
    s3 := fun j hj => (F.fsub H.f111 H.f112 H.f113 H.f114 _ _ (by omega)).up (by omega)
    m4 := fun j hj => (F.fmul H.f111 H.f115 _ _ (by omega)).up (by omega)
    s4 := fun j hj => (F.fsub H.f111 H.f112 H.f113 H.f114 _ _ (by omega)).up (by omega)
    q4 := fun j hj => (F.fdiv H.f111 H.f117 (a := (cs R A (i + 1)).Q) (r := 0) (by rw [hN, (k i).ex]; grind) ho (by omega)).up (by omega) }
theorem Rt.frz {n : Nat} {v w : D} {S : Store} {Q : D → Store → Prop} {X : Exc → Store → Prop} (h : v.lt n = false) (hw : frzD n S 20 v = some w) (q : Q w (S.take n)) : Rp (retv false n v S) Q X := by
  unfold retv
  rw [if_neg (by rw [h]; intro z; cases z), if_neg (by intro z; cases z), hw]
  exact q
/-- no cell in it, not deep -/
def Fz (k : Nat) (d : D) : Prop := ∀ n S, frzD n S k d = some d
theorem Fz.int (k : Nat) (i : Int) : Fz (k + 1) (.int i) := fun n S => rfl
theorem mapO_id {β : Type} {f : β → Option β} : ∀ {l : List β}, (∀ x, x ∈ l → f x = some x) → mapO f l = some l
  | [], _ => rfl
  | x :: l, h => by
    rw [mapO, h x (by simp), mapO_id fun y hy => h y (by simp [hy])]
theorem Fz.tup {k : Nat} {xs : List D} (h : ∀ x, x ∈ xs → Fz k x) : Fz (k + 1) (.tup xs) := fun n S => by
  rw [frzD]
  show (mapO (frzD n S k) xs).map D.tup = _
  rw [mapO_id fun x hx => h x hx n S]; rfl
theorem Lf.fz_po (F : Lf P α) {k : Nat} (hf : ∀ a, Fz k (F.enc a)) (p : Poly α) : Fz (k + 1) (F.po p) := Fz.tup fun x hx => by
  obtain ⟨a, _, rfl⟩ := List.mem_map.mp hx
  exact hf a
theorem Lf.fz_pr (F : Lf P α) {k : Nat} (hf : ∀ a, Fz k (F.enc a)) (x : Poly α × Poly α) : Fz (k + 2) (F.pr x) := Fz.tup fun y hy => by
  rcases List.mem_cons.mp hy with rfl | hy
  · exact F.fz_po hf _
  · rcases List.mem_cons.mp hy with rfl | hy
    · exact F.fz_po hf _
    · cases hy
theorem Lf.fchain (F : Lf P α) (hf : ∀ j a, Fz (j + 3) (F.enc a)) (H : LpOk P) (h209 : P.fn 209 = some F209) (h211 : P.fn 211 = some F211) {R A : Poly α} {h : Nat} (k : ∀ n, CsOk R A h n) (hl : R.len = 2 * h + 1) (hc : R.lc = 1) (hz : h ≤ 10) (m : Nat) (hm : m ≤ 1000) :
    Fnv P (F.k0 + 5) 209 [F.mo, F.po R, .int (m : Int)] (.tup [.lst ((List.range m).map fun n => F.four A (cs R A n) (cs R A (n + 1))), F.po (cs R A m).P, F.po (cs R A m).Q]) := by
  have hroot := F.froot H h211 (k 0).h2 hl hc (k 0).rt (by omega)
  refine Wc.fnv fun S => Wc.of (k := F.k0 + 4) h209 rfl (by decide) ?_
  repeat infer_instance
  refine hroot.w (by omega) ?_
  repeat infer_instance
  refine F.one.w (by omega) ?_
  repeat infer_instance
  refine F.one.w (by omega) ?_
  repeat infer_instance
  refine F.one.w (by omega) ?_
  repeat infer_instance
  have e0 : D.tup [D.tup [F.enc 1], D.tup []] = F.pr (1, 0) := by
    show _ = D.tup [F.po 1, F.po 0]
    rw [F.po_zero, F.po_one]
  have e1 : D.tup [D.tup [], D.tup [F.enc 1]] = F.pr (0, 1) := by
    show _ = D.tup [F.po 0, F.po 1]
    rw [F.po_zero, F.po_one]
  have e2 : D.tup [] = F.po 0 := by rw [F.po_zero]
  have e3 : D.tup [F.enc 1] = F.po 1 := by rw [F.po_one]
  rw [e0, e1, e2, e3]
  refine Ws.for_ (fun i ρ S' => ∃ v9 v10 v11, ρ = [some F.mo, some (F.po R), some (.int (m : Int)), some (F.po A), some (F.po (cs R A i).P), some (F.po (cs R A i).Q), some (F.pr ((cs R A i).p, (cs R A i).q)), some (F.pr ((cs R A i).p', (cs R A i).q')), some (.ref S.length), v9, v10, v11] ∧ S' = S ++ [.lst ((List.range i).map fun n => F.four A (cs R A n) (cs R A (n + 1)))]) ((List.range m).map fun (j : Nat) => D.int (j : Int)) none ?_ ?_ ?_
  · repeat infer_instance
    exact ⟨_, _, rfl, rfl, _root_.decide_eq_true ⟨by omega, by omega, by omega, by omega⟩, rng_up0, rfl, _, _, _, rfl, rfl⟩
  · rintro i x ρ S' hx ⟨v9, v10, v11, rfl, rfl⟩
    obtain ⟨hi, rfl⟩ := range_get hx
    have t := turn_ok F H k (by omega) hz (i := i) (by omega)
    refine ⟨_, rfl, ?_⟩
    repeat infer_instance
    refine (t.sum _ (Nat.le_refl _)).w (Nat.le_refl _) ?_
    repeat infer_instance
    refine (t.quo _ (Nat.le_refl _)).w (Nat.le_refl _) ?_
    repeat infer_instance
    refine Ix.of 0 rfl rfl rfl ?_
    repeat infer_instance
    refine Ix.of 0 rfl rfl rfl ?_
    repeat infer_instance
    refine (t.m1 _ (Nat.le_refl _)).w (Nat.le_refl _) ?_
    repeat infer_instance
    refine Ix.of 0 rfl rfl rfl ?_
    repeat infer_instance
    refine (t.a1 _ (Nat.le_refl _)).w (Nat.le_refl _) ?_
    repeat infer_instance
    refine Ix.of 1 rfl rfl rfl ?_
    repeat infer_instance
    refine (t.m2 _ (Nat.le_refl _)).w (Nat.le_refl _) ?_
    repeat infer_instance
    refine Ix.of 1 rfl rfl rfl ?_
    repeat infer_instance
    refine (t.a2 _ (Nat.le_refl _)).w (Nat.le_refl _) ?_
    repeat infer_instance
    refine Wapp rfl rfl (by simp; omega) ?_
    repeat infer_instance
    refine ⟨rfl, F.four_lt A (cs R A i) (cs R A (i + 1)) _, ?_⟩
    repeat infer_instance
    refine (t.m3 _ (Nat.le_refl _)).w (Nat.le_refl _) ?_
    repeat infer_instance
    refine (t.s3 _ (Nat.le_refl _)).w (Nat.le_refl _) ?_
    repeat infer_instance
    refine (t.m4 _ (Nat.le_refl _)).w (Nat.le_refl _) ?_
    repeat infer_instance
    refine (t.s4 _ (Nat.le_refl _)).w (Nat.le_refl _) ?_
    repeat infer_instance
    refine (t.q4 _ (Nat.le_refl _)).w (Nat.le_refl _) ?_
    repeat infer_instance
    refine Ix.of 0 rfl rfl rfl ?_
    repeat infer_instance
    exact ⟨rfl, _, _, _, rfl, by rw [List.range_succ, List.map_append]; rfl⟩
  · rintro ρ S' ⟨v9, v10, v11, rfl, rfl⟩
    rw [List.length_map, List.length_range]
    repeat infer_instance
    have hfour : ∀ n, Fz 18 (F.four A (cs R A n) (cs R A (n + 1))) := fun n => Fz.tup fun y hy => by
      rcases List.mem_cons.mp hy with rfl | hy
      · exact F.fz_po (hf 13) _
      rcases List.mem_cons.mp hy with rfl | hy
      · exact F.fz_po (hf 13) _
      rcases List.mem_cons.mp hy with rfl | hy
      · exact F.fz_po (hf 13) _
      rcases List.mem_cons.mp hy with rfl | hy
      · exact F.fz_pr (hf 12) _
      · cases hy
    refine Rt.frz (w := D.tup [.lst ((List.range m).map fun n => F.four A (cs R A n) (cs R A (n + 1))), F.po (cs R A m).P, F.po (cs R A m).Q]) ?_ ?_ ⟨rfl, take_cell _ _⟩
    · rw [D.lt, D.lts, D.lt]
      simp
    · rw [frzD]
      show (mapO (frzD S.length _ 19) [D.ref S.length, F.po (cs R A m).P, F.po (cs R A m).Q]).map D.tup = _
      have e1 : frzD S.length (S ++ [.lst ((List.range m).map fun n => F.four A (cs R A n) (cs R A (n + 1)))]) 19 (.ref S.length) = some (.lst ((List.range m).map fun n => F.four A (cs R A n) (cs R A (n + 1)))) := by
        rw [frzD]
        show (if S.length < S.length then _ else _) = _
        rw [if_neg (by omega), cell_at]
        show (mapO (frzD S.length _ 18) _).map D.lst = _
        rw [mapO_id fun x hx => ?_]
        · rfl
        · obtain ⟨n, _, rfl⟩ := List.mem_map.mp hx
          exact hfour n S.length _
      rw [mapO, e1, mapO, F.fz_po (hf 15) _ S.length _, mapO, F.fz_po (hf 15) _ S.length _, mapO]
      rfl
theorem Lf.fleast (F : Lf P α) (H : LpOk P) (h224 : P.fn 224 = some F224) (h211 : P.fn 211 = some F211) {R A : Poly α} {h : Nat} (k : ∀ n, CsOk R A h n) (hl : R.len = 2 * h + 1) (hc : R.lc = 1) (hz : h ≤ 10) (m : Nat) (hm : m ≤ 1000) :
    (∃ N, FirstC R A N ∧ N ≤ m ∧ Fnv P (F.k0 + 5) 224 [F.mo, F.po R, .int (m : Int)] (F.now (cs R A N))) ∨ Fnv P (F.k0 + 5) 224 [F.mo, F.po R, .int (m : Int)] .non := by
  have hroot := F.froot H h211 (k 0).h2 hl hc (k 0).rt (by omega)
  have w : ∀ S, Wc P (F.k0 + 5) 224 [F.mo, F.po R, .int (m : Int)] S (fun v S' => S' = S ∧ ((∃ N, FirstC R A N ∧ N ≤ m ∧ v = F.now (cs R A N)) ∨ (v = .non ∧ ∀ n, 1 ≤ n → n ≤ m → (cs R A n).Q.len ≠ 1))) (fun _ _ => False) := by
    intro S
    refine Wc.of (k := F.k0 + 4) h224 rfl (by decide) ?_
    repeat infer_instance
    refine hroot.w (by omega) ?_
    repeat infer_instance
    refine F.one.w (by omega) ?_
    repeat infer_instance
    refine F.one.w (by omega) ?_
    repeat infer_instance
    refine F.one.w (by omega) ?_
    repeat infer_instance
    have e0 : D.tup [D.tup [F.enc 1], D.tup []] = F.pr (1, 0) := by
      show _ = D.tup [F.po 1, F.po 0]
      rw [F.po_zero, F.po_one]
    have e1 : D.tup [D.tup [], D.tup [F.enc 1]] = F.pr (0, 1) := by
      show _ = D.tup [F.po 0, F.po 1]
      rw [F.po_zero, F.po_one]
    have e2 : D.tup [] = F.po 0 := by rw [F.po_zero]
    have e3 : D.tup [F.enc 1] = F.po 1 := by rw [F.po_one]
    rw [e0, e1, e2, e3]
    refine Ws.for_ (fun i ρ S' => ∃ v8 v9 v10, (∀ n, 1 ≤ n → n ≤ i → (cs R A n).Q.len ≠ 1) ∧ ρ = [some F.mo, some (F.po R), some (.int (m : Int)), some (F.po A), some (F.po (cs R A i).P), some (F.po (cs R A i).Q), some (F.pr ((cs R A i).p, (cs R A i).q)), some (F.pr ((cs R A i).p', (cs R A i).q')), v8, v9, v10] ∧ S' = S) ((List.range m).map fun (j : Nat) => D.int (j : Int)) none ?_ ?_ ?_
    · repeat infer_instance
      exact ⟨_, _, rfl, rfl, _root_.decide_eq_true ⟨by omega, by omega, by omega, by omega⟩, rng_up0, rfl, _, _, _, fun n h1 h2 => by omega, rfl, rfl⟩
    · rintro i x ρ S' hx ⟨v8, v9, v10, hb, rfl, rfl⟩
      obtain ⟨hi, rfl⟩ := range_get hx
      have t := turn_ok F H k (by omega) hz (i := i) (by omega)
      refine ⟨_, rfl, ?_⟩
      repeat infer_instance
      refine (t.sum _ (Nat.le_refl _)).w (Nat.le_refl _) ?_
      repeat infer_instance
      refine (t.quo _ (Nat.le_refl _)).w (Nat.le_refl _) ?_
      repeat infer_instance
      refine Ix.of 0 rfl rfl rfl ?_
      repeat infer_instance
      refine Ix.of 0 rfl rfl rfl ?_
      repeat infer_instance
      refine (t.m1 _ (Nat.le_refl _)).w (Nat.le_refl _) ?_
      repeat infer_instance
      refine Ix.of 0 rfl rfl rfl ?_
      repeat infer_instance
      refine (t.a1 _ (Nat.le_refl _)).w (Nat.le_refl _) ?_
      repeat infer_instance
      refine Ix.of 1 rfl rfl rfl ?_
      repeat infer_instance
      refine (t.m2 _ (Nat.le_refl _)).w (Nat.le_refl _) ?_
      repeat infer_instance
      refine Ix.of 1 rfl rfl rfl ?_
      repeat infer_instance
      refine (t.a2 _ (Nat.le_refl _)).w (Nat.le_refl _) ?_
      repeat infer_instance
      refine (t.m3 _ (Nat.le_refl _)).w (Nat.le_refl _) ?_
      repeat infer_instance
      refine (t.s3 _ (Nat.le_refl _)).w (Nat.le_refl _) ?_
      repeat infer_instance
      refine (t.m4 _ (Nat.le_refl _)).w (Nat.le_refl _) ?_
      repeat infer_instance
      refine (t.s4 _ (Nat.le_refl _)).w (Nat.le_refl _) ?_
      repeat infer_instance
      refine (t.q4 _ (Nat.le_refl _)).w (Nat.le_refl _) ?_
      repeat infer_instance
      refine Ix.of 0 rfl rfl rfl ?_
      repeat infer_instance
      · intro hq
        have hq' : (cs R A (i + 1)).Q.len = 1 := by
          have := eq_of_beq hq
          rw [F.encs_len] at this
          unfold Poly.len
          omega
        repeat infer_instance
        exact Rt.lt (F.pr_lt ((cs R A (i + 1)).p, (cs R A (i + 1)).q) _) ⟨List.take_length, .inl ⟨i + 1, ⟨by omega, hq', fun n h1 h2 => hb n h1 (by omega)⟩, by omega, rfl⟩⟩
      · intro hq
        have hq' : (cs R A (i + 1)).Q.len ≠ 1 := fun z => by
          have : ((F.encs (cs R A (i + 1)).Q.c).length : Int) = 1 := by rw [F.encs_len]; unfold Poly.len at z; omega
          rw [this] at hq
          cases hq
        repeat infer_instance
        refine ⟨rfl, _, _, _, fun n h1 h2 => ?_, rfl, rfl⟩
        by_cases z : n = i + 1
        · rw [z]; exact hq'
        · exact hb n h1 (by omega)
    · rintro ρ S' ⟨v9, v10, v11, hb, rfl, rfl⟩
      rw [List.length_map, List.length_range] at hb
      repeat infer_instance
      exact Rt.lt rfl ⟨List.take_length, .inr ⟨rfl, hb⟩⟩
  by_cases hx : ∃ N, FirstC R A N ∧ N ≤ m
  · obtain ⟨N, hN, hNm⟩ := hx
    refine .inl ⟨N, hN, hNm, Wc.fnv fun S => (w S).mono (fun v S' h => ?_) fun _ _ h => h⟩
    obtain ⟨h1, ⟨M, hM, hMm, rfl⟩ | ⟨rfl, h2⟩⟩ := h
    · have : M = N := by
        rcases Nat.lt_trichotomy M N with z | z | z
        · exact absurd hM.at_ (hN.bef M hM.pos z)
        · exact z
        · exact absurd hN.at_ (hM.bef N hN.pos z)
      subst this
      exact ⟨rfl, h1⟩
    · exact absurd hN.at_ (h2 N hN.pos hNm)
  · refine .inr (Wc.fnv fun S => (w S).mono (fun v S' h => ?_) fun _ _ h => h)
    obtain ⟨h1, ⟨M, hM, hMm, rfl⟩ | ⟨rfl, h2⟩⟩ := h
    · exact absurd ⟨M, hM, hMm⟩ hx
    · exact ⟨rfl, h1⟩
end RG
set_option Elab.async false
set_option linter.all false
set_option maxRecDepth 100000
/-! The law's looks at values. -/
namespace RG
open PySem Lean.Grind Poly
local macro_rules | `(tactic| infer_instance) => `(tactic| first
  | refine Wb.cons ?_ | refine Wb.nil ?_ | refine Ws.set ?_ | refine Ws.ret ?_ | refine Ws.ife ?_ | refine Ws.par ?_ | refine Ws.unp ?_ | refine Ws.pass ?_ | refine Ws.cont ?_ | refine Ws.retN ?_ | refine Ws.expr ?_
  | refine We.var rfl ?_ | refine We.lit ?_ | refine We.bin ?_ | refine We.idx ?_ | refine We.call ?_ | refine We.tup ?_ | refine We.bi ?_ | refine We.and ?_ | refine We.or ?_ | refine We.not ?_ | refine We.ite ?_ | refine We.neg ?_ | refine We.isN ?_ | refine We.own ?_ | refine We.frz ?_
  | refine Wes.cons ?_ | refine Wes.nil ?_ | refine Wl.disp ?_ | refine Wl.cat ?_ | refine Wl.rep ?_ | refine Wi.rng ?_ | refine Wi.seq ?_
  | refine Bn.add ?_ | refine Bn.sub ?_ | refine Bn.lt ?_ | refine Bn.le ?_ | refine Bn.gt ?_ | refine Bn.ge ?_ | refine Bn.eqI ?_ | refine Bn.neI ?_ | refine Bo.t ?_ | refine Bo.f ?_ | refine Bo.mk ?_ ?_ | refine ⟨_, rfl, ?_⟩)
def oddW : Str := "a word that nothing else is"
mutual
/-- plain data without the odd word, not deeper than k -/
def nst : Nat → D → Bool
  | _, .non => true
  | _, .bl _ => true
  | _, .int _ => true
  | _, .str x => x.cps.all (fun c => decide (c < 1114112)) && !(x == oddW)
  | k + 1, .tup xs => decide (xs.length ≤ 100000) && nsts k xs
  | k + 1, .lst xs => decide (xs.length ≤ 100000) && nsts k xs
  | _, _ => false
def nsts : Nat → List D → Bool
  | _, [] => true
  | k, x :: xs => nst k x && nsts k xs
end
theorem nsts_all : ∀ {k : Nat} {xs : List D}, nsts k xs = true ↔ ∀ x, x ∈ xs → nst k x = true
  | k, [] => by rw [nsts]; simp
  | k, x :: xs => by
    rw [nsts, Bool.and_eq_true, nsts_all (k := k) (xs := xs)]
    simp
theorem plains_all : ∀ {k : Nat} {xs : List D}, D.plains k xs = true ↔ ∀ x, x ∈ xs → D.plain k x = true
  | k, [] => by rw [D.plains]; simp
  | k, x :: xs => by
    rw [D.plains, Bool.and_eq_true, plains_all (k := k) (xs := xs)]
    simp
theorem nst_plain : ∀ {k j : Nat} {d : D}, k ≤ j → nst k d = true → d.plain j = true
  | k, j, .non, _, _ => by unfold D.plain; rfl
  | k, j, .bl _, _, _ => by unfold D.plain; rfl
  | k, j, .int _, _, _ => by unfold D.plain; rfl
  | k, j, .str x, _, h => by
    unfold nst at h
    unfold D.plain
    exact (Bool.and_eq_true _ _ ▸ h).1
  | k + 1, j + 1, .tup xs, hj, h => by
    rw [nst, Bool.and_eq_true, nsts_all] at h
    rw [D.plain, plains_all]
    exact fun x hx => nst_plain (by omega) (h.2 x hx)
  | k + 1, j + 1, .lst xs, hj, h => by
    rw [nst, Bool.and_eq_true, nsts_all] at h
    rw [D.plain, plains_all]
    exact fun x hx => nst_plain (by omega) (h.2 x hx)
  | 0, j, .tup xs, _, h => by unfold nst at h; cases h
  | 0, j, .lst xs, _, h => by unfold nst at h; cases h
  | k + 1, 0, .tup xs, hj, _ => by omega
  | k + 1, 0, .lst xs, hj, _ => by omega
  | k, j, .scr xs, _, h => by unfold nst at h; cases h
  | k, j, .ref _, _, h => by unfold nst at h; cases h
  | k, j, .obj _ _ _, _, h => by unfold nst at h; cases h
  | k, j, .fn _, _, h => by unfold nst at h; cases h
mutual
theorem eqv_refl : ∀ {k : Nat} {d : D}, d.plain k = true → d.eqv d = true
  | k, .non, _ => by unfold D.eqv; rfl
  | k, .bl _, _ => by unfold D.eqv; simp
  | k, .int _, _ => by unfold D.eqv; simp
  | k, .str x, h => by unfold D.eqv; simp
  | k + 1, .tup xs, h => by
    unfold D.plain at h
    unfold D.eqv
    exact eqvs_refl h
  | k + 1, .lst xs, h => by
    unfold D.plain at h
    unfold D.eqv
    exact eqvs_refl h
  | 0, .tup xs, h => by unfold D.plain at h; cases h
  | 0, .lst xs, h => by unfold D.plain at h; cases h
  | k, .scr xs, h => by unfold D.plain at h; cases h
  | k, .ref _, h => by unfold D.plain at h; cases h
  | k, .obj _ _ _, h => by unfold D.plain at h; cases h
  | k, .fn _, h => by unfold D.plain at h; cases h
theorem eqvs_refl : ∀ {k : Nat} {xs : List D}, D.plains k xs = true → D.eqvs xs xs = true
  | k, [], _ => by rw [D.eqvs]
  | k, x :: xs, h => by
    rw [D.plains, Bool.and_eq_true] at h
    rw [D.eqvs, eqv_refl h.1, eqvs_refl h.2]; rfl
end
theorem oddW_plain : (D.str oddW).plain 20 = true := by
  unfold D.plain oddW
  decide +kernel
theorem eq_odd {d : D} {k : Nat} (hk : k ≤ 20) (h : nst k d = true) : binop .eq d (.str oddW) = some (.bl false) := by
  have hp := nst_plain hk h
  have e : binop .eq d (.str oddW) = if d.plain 20 && (D.str oddW).plain 20 then some (.bl (d.eqv (.str oddW))) else none := by
    cases d <;> rfl
  rw [e, hp, oddW_plain]
  have : d.eqv (.str oddW) = false := by
    cases d <;> unfold D.eqv <;> try rfl
    unfold nst at h
    rw [Bool.and_eq_true] at h
    simpa using h.2
  rw [this]
  rfl
structure ValOk (P : Prog) : Prop where
  f95 : P.fn 95 = some F95
  f96 : P.fn 96 = some F96
  f97 : P.fn 97 = some F97
  f98 : P.fn 98 = some F98
  f99 : P.fn 99 = some F99
variable {P : Prog}
theorem Wl.mono {k : Nat} {ρ : Env} {S : Store} {X X' : Exc → Store → Prop} {Q Q' : List D → Store → Prop} {l : L} (h : Wl P k l ρ S Q X) (hq : ∀ a S, Q a S → Q' a S) (hx : ∀ x S, X x S → X' x S) : Wl P k l ρ S Q' X' := .mk fun d => (h.1 d).mono hq hx
theorem Wl.empty {k : Nat} {ρ : Env} {S : Store} {X : Exc → Store → Prop} {Q : List D → Store → Prop} {own : List Nat} {tg : Tg} {it : It} {c elt : E} (xs : List D) (h : Wi P k it ρ S (fun ys g' S' => ys = xs ∧ g' = none ∧ S' = S) X)
    (step : ∀ x, x ∈ xs → ∃ ρ1, bind S tg x (wipe ρ own) = some ρ1 ∧ We P k c ρ1 S (fun t S' => t = .bl false ∧ S' = S) (fun _ _ => False)) (q : Q [] S) : Wl P k (.comp own tg it c elt) ρ S Q X := by
  refine Wl.comp (fun _ acc S' => acc = [] ∧ S' = S) xs none ⟨fun d => (h.1 d).mono (fun p S h => ⟨h.1, h.2.1, rfl, h.2.2⟩) fun _ _ h => h⟩ ?_ ?_
  · rintro i x acc S' hx ⟨rfl, rfl⟩
    obtain ⟨ρ1, h1, h2⟩ := step x (List.mem_of_getElem? hx)
    refine ⟨ρ1, h1, h2.mono (fun t S h => ?_) fun _ _ h => h⟩
    obtain ⟨rfl, rfl⟩ := h
    exact Bo.f ⟨rfl, rfl, rfl⟩
  · rintro acc S' ⟨rfl, rfl⟩
    exact q
theorem fodd (H : ValOk P) : ∀ (k : Nat) (d : D), k ≤ 20 → nst k d = true → Fnv P (k + 1) 95 [d] (.bl false) := by
  intro k
  induction k with
  | zero =>
    intro d hk h
    refine Wc.fnv fun S => Wc.of (k := 0) H.f95 rfl (by decide) ?_
    refine Wb.cons (Ws.ife (We.bin (We.var rfl (We.lit (Bn.of (eq_odd hk h) (Bo.f (Wb.nil ?_)))))))
    repeat infer_instance
    have : isT S [3, 4] d = some false := by
      cases d <;> first | rfl | (unfold nst at h; cases h)
    refine ⟨.bl false, by show (isT S [3, 4] d).map D.bl = _; rw [this]; rfl, Bo.f ?_⟩
    exact Rt.lt rfl ⟨rfl, List.take_length⟩
  | succ k ih =>
    intro d hk h
    refine Wc.fnv fun S => Wc.of (k := k + 1) H.f95 rfl (by decide) ?_
    refine Wb.cons (Ws.ife (We.bin (We.var rfl (We.lit (Bn.of (eq_odd hk h) (Bo.f (Wb.nil ?_)))))))
    repeat infer_instance
    have tl : ∀ xs, items S d = some xs → guardOf S d = none → isT S [3, 4] d = some true → nsts k xs = true → ∃ z, biop S (.isT [3, 4]) [d] = some z ∧ Bo z (We P (k + 1) (.bin .gt (.bi .len (.cons (.frz (.comp [1] (.name 1) (.seq (.var 0)) (.call 95 (.cons (.var 1) .nil)) (.var 1))) .nil)) (.lit (.int 0))) ([d].map some ++ List.replicate (2 - 1) none) S (fun v S' => Rp (retv false S.length v S') (fun w S' => w = .bl false ∧ S' = S) fun _ _ => False) (fun x S' => x.arg.lt 0 = true ∧ False))
        (Rp (retv false S.length (.bl false) S) (fun w S' => w = .bl false ∧ S' = S) fun _ _ => False) := by
      intro xs hi hg ht hn
      refine ⟨.bl true, by show (isT S [3, 4] d).map D.bl = _; rw [ht]; rfl, Bo.t ?_⟩
      repeat infer_instance
      refine Wl.empty xs ?_ (fun x hx => ⟨_, rfl, ?_⟩) ?_
      · repeat infer_instance
        exact ⟨xs, hi, rfl, hg, rfl⟩
      · repeat infer_instance
        exact (ih x (by omega) (nsts_all.mp hn x hx)).w (Nat.le_refl _) ⟨rfl, rfl⟩
      · repeat infer_instance
        exact Rt.lt rfl ⟨rfl, List.take_length⟩
    cases d with
    | tup xs =>
      rw [nst, Bool.and_eq_true] at h
      exact tl xs rfl rfl rfl h.2
    | lst xs =>
      rw [nst, Bool.and_eq_true] at h
      exact tl xs rfl rfl rfl h.2
    | scr xs => unfold nst at h; cases h
    | ref i => unfold nst at h; cases h
    | obj c ks vs => unfold nst at h; cases h
    | fn f => unfold nst at h; cases h
    | non => exact ⟨_, rfl, Bo.f (Rt.lt rfl ⟨rfl, List.take_length⟩)⟩
    | bl b => exact ⟨_, rfl, Bo.f (Rt.lt rfl ⟨rfl, List.take_length⟩)⟩
    | int i => exact ⟨_, rfl, Bo.f (Rt.lt rfl ⟨rfl, List.take_length⟩)⟩
    | str x => exact ⟨_, rfl, Bo.f (Rt.lt rfl ⟨rfl, List.take_length⟩)⟩
mutual
theorem nst_lt : ∀ {k n : Nat} {d : D}, nst k d = true → d.lt n = true
  | k, n, .non, _ => by unfold D.lt; rfl
  | k, n, .bl _, _ => by unfold D.lt; rfl
  | k, n, .int _, _ => by unfold D.lt; rfl
  | k, n, .str x, h => by unfold D.lt; rfl
  | k + 1, n, .tup xs, h => by
    unfold nst at h
    rw [Bool.and_eq_true] at h
    unfold D.lt
    exact nsts_lt h.2
  | k + 1, n, .lst xs, h => by
    unfold nst at h
    rw [Bool.and_eq_true] at h
    unfold D.lt
    exact nsts_lt h.2
  | 0, n, .tup xs, h => by unfold nst at h; cases h
  | 0, n, .lst xs, h => by unfold nst at h; cases h
  | k, n, .scr xs, h => by unfold nst at h; cases h
  | k, n, .ref _, h => by unfold nst at h; cases h
  | k, n, .obj _ _ _, h => by unfold nst at h; cases h
  | k, n, .fn _, h => by unfold nst at h; cases h
theorem nsts_lt : ∀ {k n : Nat} {xs : List D}, nsts k xs = true → D.lts n xs = true
  | k, n, [], _ => by rw [D.lts]
  | k, n, x :: xs, h => by
    rw [nsts, Bool.and_eq_true] at h
    rw [D.lts, nst_lt h.1, nsts_lt h.2]; rfl
end
theorem fhonest (H : ValOk P) (k : Nat) (d : D) (hk : k ≤ 20) (h : nst k d = true) : Fnv P (k + 2) 96 [d] d := by
  refine Wc.fnv fun S => Wc.of (k := k + 1) H.f96 rfl (by decide) ?_
  repeat infer_instance
  refine (fodd H k d hk h).w (Nat.le_refl _) (Bo.f ?_)
  repeat infer_instance
  exact Rt.lt (nst_lt h) ⟨rfl, List.take_length⟩
theorem fwhole (H : ValOk P) (i : Int) : Fnv P 1 97 [.int i] (.bl true) := by
  refine Wc.fnv fun S => Wc.of (k := 0) H.f97 rfl (by decide) ?_
  repeat infer_instance
  exact Rt.lt rfl ⟨rfl, List.take_length⟩
theorem bools_rp : ∀ n : Nat, bools (List.replicate n (.bl true)) = some (List.replicate n true)
  | 0 => rfl
  | n + 1 => by rw [List.replicate_succ, bools, bools_rp n]; rfl
theorem eq_self {k : Nat} {d : D} (hk : k ≤ 20) (h : nst k d = true) : binop .eq d d = some (.bl true) := by
  have hp := nst_plain hk h
  have hr := eqv_refl hp
  by_cases hi : ∃ i, d = .int i
  · obtain ⟨i, rfl⟩ := hi
    show some (D.bl (i == i)) = _
    simp
  · have e : binop .eq d d = if d.plain 20 && d.plain 20 then some (.bl (d.eqv d)) else none := by
      cases d <;> first | rfl | exact absurd ⟨_, rfl⟩ hi
    rw [e, hp, hr]; rfl
theorem fsame (H : ValOk P) : ∀ (k : Nat) (d : D), k ≤ 20 → nst k d = true → Fnv P (k + 2) 98 [d, d] (.bl true) := by
  intro k
  have scal : ∀ (k : Nat) (d : D), k ≤ 20 → nst k d = true → (∀ xs, d ≠ .tup xs) → (∀ xs, d ≠ .lst xs) → Fnv P (k + 2) 98 [d, d] (.bl true) := by
    intro k d hk h n1 n2
    have he := eq_self hk h
    refine Wc.fnv fun S => Wc.of (k := k + 1) H.f98 rfl (by decide) ?_
    cases d with
    | tup xs => exact absurd rfl (n1 xs)
    | lst xs => exact absurd rfl (n2 xs)
    | scr xs => unfold nst at h; cases h
    | ref i => unfold nst at h; cases h
    | obj c ks vs => unfold nst at h; cases h
    | fn f => unfold nst at h; cases h
    | non =>
      repeat infer_instance
      exact Rt.lt rfl ⟨rfl, List.take_length⟩
    | bl b =>
      iterate 60 (first | refine Bn.of he ?_ | infer_instance | skip)
      exact Rt.lt rfl ⟨rfl, List.take_length⟩
    | int i =>
      iterate 60 (first | refine (fwhole H i).w (by omega) ?_ | refine Bn.of he ?_ | infer_instance | skip)
      exact Rt.lt rfl ⟨rfl, List.take_length⟩
    | str x =>
      iterate 60 (first | refine Bn.of he ?_ | infer_instance | skip)
      exact Rt.lt rfl ⟨rfl, List.take_length⟩
  have seqs : ∀ (k : Nat), k ≤ 20 → (∀ (d : D), k ≤ 20 → nst k d = true → Fnv P (k + 2) 98 [d, d] (.bl true)) → ∀ xs : List D, xs.length ≤ 100000 → nsts k xs = true → ∀ (d : D) (S : Store), items S d = some xs → Wl P (k + 2) (.comp [2] (.name 2) (.rng (.lit (.int 0)) (.bi .len (.cons (.var 1) .nil)) 1) (.lit (.bl true)) (.call 98 (.cons (.idx (.var 0) (.var 2)) (.cons (.idx (.var 1) (.var 2)) .nil)))) [some d, some d, none] S (fun v S' => v = List.replicate xs.length (.bl true) ∧ S' = S) (fun _ _ => False) := by
    intro k hk ih xs hz hn d S hi
    refine Wl.comp (fun i acc S' => acc = List.replicate i (.bl true) ∧ S' = S) ((List.range xs.length).map fun (j : Nat) => D.int (j : Int)) none ?_ ?_ ?_
    · repeat infer_instance
      refine ⟨_, by show (items S d).map _ = _; rw [hi]; rfl, ?_⟩
      exact ⟨_, _, rfl, rfl, _root_.decide_eq_true ⟨by omega, by omega, by omega, by omega⟩, rng_up0, rfl, rfl, rfl⟩
    · rintro i x acc S' hx ⟨rfl, rfl⟩
      obtain ⟨hil, rfl⟩ := range_get hx
      refine ⟨_, rfl, ?_⟩
      repeat infer_instance
      refine Ix.of i hi rfl (List.getElem?_eq_getElem hil) ?_
      repeat infer_instance
      refine Ix.of i hi rfl (List.getElem?_eq_getElem hil) ?_
      repeat infer_instance
      refine (ih _ hk (nsts_all.mp hn _ (List.getElem_mem hil))).w (Nat.le_refl _) ?_
      exact ⟨by simp; omega, rfl, by rw [List.replicate_succ'], rfl⟩
    · rintro acc S' ⟨rfl, rfl⟩
      rw [List.length_map, List.length_range]
      exact ⟨rfl, rfl⟩
  have two : ∀ (k : Nat), k + 1 ≤ 20 → (∀ (d : D), k ≤ 20 → nst k d = true → Fnv P (k + 2) 98 [d, d] (.bl true)) → ∀ (d : D) (xs : List D), nst (k + 1) d = true → (d = .tup xs ∨ d = .lst xs) → Fnv P (k + 3) 98 [d, d] (.bl true) := by
    intro k hk ih d xs h hd
    have hx : xs.length ≤ 100000 ∧ nsts k xs = true := by
      rcases hd with rfl | rfl <;> (unfold nst at h; rw [Bool.and_eq_true] at h; exact ⟨_root_.of_decide_eq_true h.1, h.2⟩)
    have hb : ∀ S, ∃ z, biop S .all [.lst (List.replicate xs.length (.bl true))] = some z ∧ z = .bl true := fun S => by
      refine ⟨_, ?_, rfl⟩
      show ((bools (List.replicate xs.length (.bl true))).map fun bs => D.bl (bs.all id)) = _
      rw [bools_rp]
      simp
    refine Wc.fnv fun S => Wc.of (k := k + 2) H.f98 rfl (by decide) ?_
    have hi : items S d = some xs := by rcases hd with rfl | rfl <;> rfl
    rcases hd with rfl | rfl
    · repeat infer_instance
      · intro _
        repeat infer_instance
        refine (seqs k (by omega) ih xs hx.1 hx.2 _ S hi).mono (fun v S' h => ?_) fun _ _ h => h.elim
        obtain ⟨rfl, rfl⟩ := h
        repeat infer_instance
        obtain ⟨z, e, rfl⟩ := hb S'
        refine ⟨_, e, ?_⟩
        exact Rt.lt rfl ⟨rfl, List.take_length⟩
      · intro z
        rw [beq_self_eq_true] at z
        cases z
    · repeat infer_instance
      · intro _
        repeat infer_instance
        refine (seqs k (by omega) ih xs hx.1 hx.2 _ S hi).mono (fun v S' h => ?_) fun _ _ h => h.elim
        obtain ⟨rfl, rfl⟩ := h
        repeat infer_instance
        obtain ⟨z, e, rfl⟩ := hb S'
        refine ⟨_, e, ?_⟩
        exact Rt.lt rfl ⟨rfl, List.take_length⟩
      · intro z
        rw [beq_self_eq_true] at z
        cases z
  induction k with
  | zero =>
    intro d hk h
    exact scal 0 d hk h (fun xs z => by subst z; unfold nst at h; cases h) (fun xs z => by subst z; unfold nst at h; cases h)
  | succ k ih =>
    intro d hk h
    by_cases h1 : ∃ xs, d = .tup xs
    · obtain ⟨xs, rfl⟩ := h1
      exact two k hk ih _ xs h (.inl rfl)
    · by_cases h2 : ∃ xs, d = .lst xs
      · obtain ⟨xs, rfl⟩ := h2
        exact two k hk ih _ xs h (.inr rfl)
      · exact scal (k + 1) d hk h (fun xs z => h1 ⟨xs, z⟩) (fun xs z => h2 ⟨xs, z⟩)
theorem fsays (H : ValOk P) (a b : Bool) : Fnv P 1 99 [.bl a, .bl b] (.bl (a == b)) := by
  refine Wc.fnv fun S => Wc.of (k := 0) H.f99 rfl (by decide) ?_
  repeat infer_instance
  refine Rt.lt rfl ⟨?_, List.take_length⟩
  unfold D.eqv
  rfl
end RG
set_option Elab.async false
set_option linter.all false
/-! The law's chain of numbers: from every number but one it comes to every other. -/
namespace RG
theorem inj_surj : ∀ (n : Nat) (f : Nat → Nat), (∀ i, i < n → f i < n) → (∀ i j, i < n → j < n → f i = f j → i = j) → ∀ y, y < n → ∃ i, i < n ∧ f i = y
  | 0, _, _, _, y, hy => by omega
  | n + 1, f, hf, hi, y, hy => by
    have ih := inj_surj n (fun i => if f i = n then f n else f i) (fun i h => by
      have h1 := hf i (by omega)
      have h2 := hf n (by omega)
      split
      · rename_i e
        rcases Nat.lt_or_ge (f n) n with z | z
        · exact z
        · have := hi i n (by omega) (by omega) (by omega); omega
      · omega) (fun i j h1 h2 e => by
      split at e <;> split at e
      · exact hi i j (by omega) (by omega) (by omega)
      · have := hi n j (by omega) (by omega) e; omega
      · have := hi i n (by omega) (by omega) e; omega
      · exact hi i j (by omega) (by omega) e)
    by_cases h1 : y = f n
    · exact ⟨n, by omega, h1.symm⟩
    · by_cases h2 : y = n
      · have h3 := hf n (by omega)
        obtain ⟨i, hi1, hi2⟩ := ih (f n) (by omega)
        split at hi2
        · rename_i e
          exact ⟨i, by omega, by omega⟩
        · have := hi i n (by omega) (by omega) hi2; omega
      · obtain ⟨i, hi1, hi2⟩ := ih y (by omega)
        split at hi2
        · exact absurd hi2.symm h1
        · exact ⟨i, by omega, hi2⟩
/-- powers by squares -/
def pmF (b m : Nat) : Nat → Nat → Nat
  | 0, _ => 1 % m
  | f + 1, e => (pmF b m f (e / 2)) ^ 2 * (if e % 2 = 1 then b else 1) % m
theorem pmF_eq (b m : Nat) : ∀ (f e : Nat), e < 2 ^ f → pmF b m f e = b ^ e % m
  | 0, e, h => by
    have : e = 0 := by simpa using h
    subst this
    rw [pmF, Nat.pow_zero]
  | f + 1, e, h => by
    rw [pmF, pmF_eq b m f (e / 2) (by rw [Nat.pow_succ] at h; omega)]
    have he : e = 2 * (e / 2) + e % 2 := by omega
    have h2 : b ^ e = (b ^ (e / 2)) ^ 2 * (if e % 2 = 1 then b else 1) := by
      conv => lhs; rw [he]
      rw [Nat.pow_add, Nat.pow_mul, Nat.pow_right_comm]
      congr 1
      rcases Nat.mod_two_eq_zero_or_one e with z | z
      · rw [z, Nat.pow_zero]; rfl
      · rw [z, Nat.pow_one]; rfl
    rw [h2, Nat.mul_mod, Nat.pow_mod, Nat.mod_mod, ← Nat.pow_mod, ← Nat.mul_mod]
abbrev gM : Nat := 2147483647
abbrev gL : Nat := 2147483646
/-- the powers of the factor -/
def gp (e : Nat) : Nat := 48271 ^ e % gM
theorem gp_add (a b : Nat) : gp (a + b) = gp a * gp b % gM := by
  unfold gp
  rw [Nat.pow_add, Nat.mul_mod]
theorem gp_calc (e : Nat) (h : e < 2 ^ 32) : gp e = pmF 48271 gM 32 e := (pmF_eq _ _ 32 e h).symm
theorem gp_L : gp gL = 1 := by rw [gp_calc _ (by decide)]; decide +kernel
theorem gp_lt (e : Nat) : gp e < gM := Nat.mod_lt _ (by decide)
theorem gp_0 : gp 0 = 1 := by decide
theorem gp_mul {a : Nat} (h : gp a = 1) : ∀ k, gp (a * k) = 1
  | 0 => by rw [Nat.mul_zero]; exact gp_0
  | k + 1 => by rw [Nat.mul_succ, gp_add, gp_mul h k, h]; decide
theorem gp_per (n k : Nat) : gp (n + gL * k) = gp n := by
  rw [gp_add, gp_mul gp_L k, Nat.mul_one]
  exact Nat.mod_eq_of_lt (gp_lt n)
theorem gp_mod (n : Nat) : gp (n % gL) = gp n := by
  have := gp_per (n % gL) (n / gL)
  rw [Nat.mod_add_div] at this
  exact this.symm
theorem gp_sub {a b : Nat} (ha : gp (a + b) = 1) (hb : gp b = 1) : gp a = 1 := by
  rw [gp_add, hb, Nat.mul_one, Nat.mod_eq_of_lt (gp_lt a)] at ha
  exact ha
theorem gp_gcd (a b : Nat) : gp a = 1 → gp b = 1 → gp (a.gcd b) = 1 := by
  induction a, b using Nat.gcd.induction with
  | H0 n => intro _ h; rw [Nat.gcd_zero_left]; exact h
  | H1 m n hm ih =>
    intro h1 h2
    rw [Nat.gcd_rec]
    refine ih ?_ h1
    refine gp_sub (b := m * (n / m)) ?_ (gp_mul h1 _)
    rw [Nat.mod_add_div]; exact h2
/-- no divisors but one and itself -/
def prB (p : Nat) : Bool := (List.range (p + 1)).all fun d => !(p % d == 0) || d == 1 || d == p || d == 0
theorem prB_gcd {p : Nat} (h : prB p = true) (hp : 0 < p) (k : Nat) : k.gcd p = 1 ∨ p ∣ k := by
  have hd := Nat.gcd_dvd_right k p
  have hle := Nat.le_of_dvd hp hd
  unfold prB at h
  rw [List.all_eq_true] at h
  have := h (k.gcd p) (by rw [List.mem_range]; omega)
  have h0 : 0 < k.gcd p := Nat.gcd_pos_of_pos_right k hp
  have hm : p % k.gcd p = 0 := Nat.mod_eq_zero_of_dvd hd
  rw [hm] at this
  simp at this
  rcases this with (z | z) | z
  · exact .inl z
  · refine .inr ?_
    rw [← z]; exact Nat.gcd_dvd_left k p
  · omega
theorem prod_dvd : ∀ (ps : List Nat), (∀ p, p ∈ ps → prB p = true ∧ 0 < p) → ∀ k, k ∣ ps.foldr (· * ·) 1 → k = 1 ∨ ∃ p, p ∈ ps ∧ p ∣ k
  | [], _, k, h => .inl (by simpa using h)
  | p :: ps, hp, k, h => by
    rcases prB_gcd (hp p (by simp)).1 (hp p (by simp)).2 k with z | z
    · have h2 : k ∣ ps.foldr (· * ·) 1 := Nat.Coprime.dvd_of_dvd_mul_left z h
      rcases prod_dvd ps (fun q hq => hp q (by simp [hq])) k h2 with z | ⟨q, hq, hd⟩
      · exact .inl z
      · exact .inr ⟨q, by simp [hq], hd⟩
    · exact .inr ⟨p, by simp, z⟩
theorem gp_ord {d : Nat} (h0 : 0 < d) (hd : d < gL) : gp d ≠ 1 := by
  intro h
  have hg := gp_gcd d gL h gp_L
  have h1 := Nat.gcd_dvd_right d gL
  have h2 := Nat.le_of_dvd h0 (Nat.gcd_dvd_left d gL)
  generalize d.gcd gL = e at hg h1 h2
  obtain ⟨k, hk⟩ := h1
  have hps : gL = [2, 3, 3, 7, 11, 31, 151, 331].foldr (· * ·) 1 := by decide
  have hkd : k ∣ [2, 3, 3, 7, 11, 31, 151, 331].foldr (· * ·) 1 := ⟨e, by rw [← hps, hk, Nat.mul_comm]⟩
  rcases prod_dvd [2, 3, 3, 7, 11, 31, 151, 331] (by decide +kernel) k hkd with z | ⟨p, hp, q, hq⟩
  · rw [z, Nat.mul_one] at hk; omega
  · have hLp : gL / p = e * q := by
      rw [hk, hq]
      have : 0 < p := by
        rcases Nat.eq_zero_or_pos p with z | z
        · subst z
          have := hk
          rw [hq, Nat.zero_mul, Nat.mul_zero] at this
          exact absurd this (by decide)
        · exact z
      rw [show e * (p * q) = p * (e * q) by rw [Nat.mul_left_comm], Nat.mul_div_cancel_left _ this]
    have h3 : gp (gL / p) = 1 := by rw [hLp]; exact gp_mul hg q
    have h4 : ∀ p, p ∈ [2, 3, 3, 7, 11, 31, 151, 331] → gp (gL / p) ≠ 1 := by
      intro p hp
      have : pmF 48271 gM 32 (gL / p) ≠ 1 := by
        revert p
        decide +kernel
      rwa [gp_calc _ (Nat.lt_of_le_of_lt (Nat.div_le_self _ _) (by decide))]
    exact h4 p hp h3
theorem gp_inv (n : Nat) : gp n * gp (gL * (n + 1) - n) % gM = 1 := by
  rw [← gp_add]
  have : n + (gL * (n + 1) - n) = gL * (n + 1) := by
    have : n ≤ gL * (n + 1) := by
      have : 1 * (n + 1) ≤ gL * (n + 1) := Nat.mul_le_mul_right _ (by decide)
      omega
    omega
  rw [this]
  exact gp_mul gp_L _
theorem gp_pos (n : Nat) : 0 < gp n := by
  rcases Nat.eq_zero_or_pos (gp n) with z | z
  · have := gp_inv n
    rw [z, Nat.zero_mul] at this
    cases this
  · exact z
theorem gp_inj {i j : Nat} (hi : i < gL) (hj : j < gL) (h : gp i = gp j) : i = j := by
  have key : ∀ i j, i < j → j < gL → gp i = gp j → False := by
    intro i j hij hj h
    refine gp_ord (d := j - i) (by omega) (by omega) ?_
    have e1 : gp (j - i) = gp (j - i) * (gp i * gp (gL * (i + 1) - i) % gM) % gM := by rw [gp_inv, Nat.mul_one, Nat.mod_eq_of_lt (gp_lt _)]
    have e2 : gp j = gp (j - i) * gp i % gM := by rw [← gp_add]; congr 1; omega
    rw [e1, Nat.mul_mod_mod, ← Nat.mul_assoc, ← Nat.mod_mul_mod, ← e2, ← h]
    exact gp_inv i
  rcases Nat.lt_trichotomy i j with z | z | z
  · exact (key i j z hj h).elim
  · exact z
  · exact (key j i z hi h.symm).elim
/-- each rest but 0 is a power -/
theorem gp_surj {u : Nat} (h0 : 0 < u) (hu : u < gM) : ∃ n, gp n = u := by
  obtain ⟨i, _, h⟩ := inj_surj gL (fun i => gp i - 1) (fun i _ => by have := gp_lt i; have := gp_pos i; simp only [gL, gM] at *; omega) (fun i j hi hj h => by
    have h1 := gp_pos i
    have h2 := gp_pos j
    exact gp_inj hi hj (by omega)) (u - 1) (by simp only [gL, gM] at *; omega)
  have := gp_pos i
  exact ⟨i, by omega⟩
/-- the chain of numbers -/
def gn (b : Nat) : Nat := (b * 48271 + 11) % 2147483647
def gi (b : Nat) : Nat → Nat
  | 0 => b
  | n + 1 => gi (gn b) n
theorem gi_add (b : Nat) : ∀ m n, gi b (m + n) = gi (gi b m) n := by
  intro m
  induction m generalizing b with
  | zero => intro n; rw [Nat.zero_add]; rfl
  | succ m ih => intro n; rw [show m + 1 + n = (m + n) + 1 by omega]; exact ih (gn b) n
/-- less the number that stays -/
def gu (b : Nat) : Nat := (b + 173818492) % gM
theorem gu_n (b : Nat) : gu (gn b) = gu b * 48271 % gM := by
  unfold gu gn
  rw [Nat.mod_mul_mod]
  simp only [gM]
  omega
theorem gu_i (b : Nat) : ∀ n, gu (gi b n) = gu b * gp n % gM := by
  intro n
  induction n generalizing b with
  | zero =>
    show gu b = _
    rw [gp_0, Nat.mul_one]
    exact (Nat.mod_eq_of_lt (Nat.mod_lt _ (by decide))).symm
  | succ n ih =>
    show gu (gi (gn b) n) = _
    rw [ih, gu_n, Nat.mod_mul_mod]
    have : gp (n + 1) = 48271 * gp n % gM := by rw [Nat.add_comm, gp_add]; rfl
    rw [this, Nat.mul_mod_mod, Nat.mul_assoc]
theorem gu_inj {a b : Nat} (ha : a < gM) (hb : b < gM) (h : gu a = gu b) : a = b := by
  unfold gu at h
  simp only [gM] at *
  omega
theorem gn_lt (b : Nat) : gn b < gM := Nat.mod_lt _ (by decide)
theorem gi_lt {b : Nat} (h : b < gM) : ∀ n, gi b n < gM := by
  intro n
  induction n generalizing b with
  | zero => exact h
  | succ n ih => exact ih (gn_lt b)
theorem gu_pos {b : Nat} (h : b < gM) (hb : b ≠ 1973665155) : 0 < gu b := by
  unfold gu
  simp only [gM] at *
  omega
theorem gn_ne {b : Nat} (h : b < gM) (hb : b ≠ 1973665155) : gn b ≠ 1973665155 := by
  intro z
  have h1 := gu_n b
  rw [z] at h1
  have h2 : gu 1973665155 = 0 := by decide
  rw [h2] at h1
  have h3 := gu_pos h hb
  have h4 : gu b < gM := Nat.mod_lt _ (by decide)
  obtain ⟨n, hn⟩ := gp_surj h3 h4
  rw [← hn] at h1
  have : gp (n + 1) = gp n * 48271 % gM := by rw [gp_add]; rfl
  rw [← this] at h1
  have := gp_pos (n + 1)
  omega
theorem gi_ne {b : Nat} (h : b < gM) (hb : b ≠ 1973665155) : ∀ n, gi b n ≠ 1973665155 := by
  intro n
  induction n generalizing b with
  | zero => exact hb
  | succ n ih => exact ih (gn_lt b) (gn_ne h hb)
/-- by steps of a width, to one of the first numbers behind a given one -/
theorem gi_meet {b w D c t : Nat} (hb : b < gM) (hb' : b ≠ 1973665155) (hw : w < gM) (hw' : w ≠ 1973665155) (hc : 0 < c) (ht : t * D % gL = c % gL) : ∃ q j, j < c ∧ gi b (q * D) = gi w j := by
  obtain ⟨m, hm⟩ := gp_surj (gu_pos hb hb') (Nat.mod_lt _ (by decide))
  obtain ⟨n, hn⟩ := gp_surj (gu_pos hw hw') (Nat.mod_lt _ (by decide))
  -- s steps from b to w
  have hs : ∃ s, gi b s = w := by
    refine ⟨n + (gL * (m + 1) - m), gu_inj (gi_lt hb _) hw ?_⟩
    rw [gu_i, ← hm, ← hn, ← gp_add]
    have : m + (n + (gL * (m + 1) - m)) = n + gL * (m + 1) := by
      have : m ≤ gL * (m + 1) := by
        have : 1 * (m + 1) ≤ gL * (m + 1) := Nat.mul_le_mul_right _ (by decide)
        omega
      omega
    rw [this, gp_per]
  obtain ⟨s, hs⟩ := hs
  have hj : ∃ j q, j < c ∧ s + j = c * q := by
    refine ⟨(c - s % c) % c, (s + (c - s % c) % c) / c, Nat.mod_lt _ hc, ?_⟩
    have h1 := Nat.mod_lt s hc
    have h2 := Nat.mod_add_div s c
    by_cases z : s % c = 0
    · rw [z, Nat.sub_zero, Nat.mod_self, Nat.add_zero]
      rw [z] at h2
      rw [Nat.mul_div_cancel' (Nat.dvd_of_mod_eq_zero z)]
    · rw [Nat.mod_eq_of_lt (by omega : c - s % c < c)]
      have : s + (c - s % c) = c * (s / c + 1) := by rw [Nat.mul_add, Nat.mul_one]; omega
      rw [this, Nat.mul_div_cancel_left _ hc]
  obtain ⟨j, q, hj, hq⟩ := hj
  refine ⟨t * q, j, hj, ?_⟩
  have : gi w j = gi b (s + j) := by rw [gi_add, hs]
  rw [this]
  refine gu_inj (gi_lt hb _) (gi_lt hb _) ?_
  rw [gu_i, gu_i, hq]
  congr 2
  rw [← gp_mod, ← gp_mod (c * q)]
  congr 1
  rw [Nat.mul_right_comm, Nat.mul_mod, ht, ← Nat.mul_mod]
end RG
set_option Elab.async false
set_option linter.all false
set_option maxRecDepth 100000
/-! The law's drawn radicands over rests. -/
namespace RG
open PySem Lean.Grind Poly
local macro_rules | `(tactic| infer_instance) => `(tactic| first
  | refine Wb.cons ?_ | refine Wb.nil ?_ | refine Ws.set ?_ | refine Ws.ret ?_ | refine Ws.ife ?_ | refine Ws.par ?_ | refine Ws.unp ?_ | refine Ws.pass ?_ | refine Ws.cont ?_ | refine Ws.retN ?_ | refine Ws.expr ?_
  | refine We.var rfl ?_ | refine We.lit ?_ | refine We.bin ?_ | refine We.idx ?_ | refine We.call ?_ | refine We.tup ?_ | refine We.bi ?_ | refine We.and ?_ | refine We.or ?_ | refine We.not ?_ | refine We.ite ?_ | refine We.neg ?_ | refine We.isN ?_ | refine We.own ?_ | refine We.frz ?_
  | refine Wes.cons ?_ | refine Wes.nil ?_ | refine Wl.disp ?_ | refine Wl.cat ?_ | refine Wl.rep ?_ | refine Wi.rng ?_ | refine Wi.seq ?_
  | refine Bn.add ?_ | refine Bn.sub ?_ | refine Bn.lt ?_ | refine Bn.le ?_ | refine Bn.gt ?_ | refine Bn.ge ?_ | refine Bn.eqI ?_ | refine Bn.neI ?_ | refine Bo.t ?_ | refine Bo.f ?_ | refine Bo.mk ?_ ?_ | refine ⟨_, rfl, ?_⟩)
/-- n draws -/
def tks (m : Nat) : Nat → Nat × Nat → List Nat × (Nat × Nat)
  | 0, s => ([], s)
  | n + 1, s => ((tks m n s).1 ++ [(tk m (tks m n s).2).1], (tk m (tks m n s).2).2)
theorem tks_len (m : Nat) : ∀ n s, (tks m n s).1.length = n
  | 0, s => rfl
  | n + 1, s => by rw [tks, List.length_append, tks_len m n s]; rfl
theorem tks_add (m a : Nat) (s : Nat × Nat) : ∀ b, (tks m (a + b) s).2 = (tks m b (tks m a s).2).2
  | 0 => rfl
  | b + 1 => by
    show (tk m (tks m (a + b) s).2).2 = (tk m (tks m b (tks m a s).2).2).2
    rw [tks_add m a s b]
theorem tk_lt {m : Nat} (hm : 0 < m) (s : Nat × Nat) : (tk m s).1 < m := by
  unfold tk
  split <;> exact Nat.mod_lt _ hm
theorem tks_lt {m : Nat} (hm : 0 < m) : ∀ n s x, x ∈ (tks m n s).1 → x < m
  | 0, s, x, h => by cases h
  | n + 1, s, x, h => by
    rw [tks, List.mem_append] at h
    rcases h with h | h
    · exact tks_lt hm n s x h
    · rw [List.mem_singleton] at h
      rw [h]; exact tk_lt hm _
/-- a state that the chain of numbers moves -/
def Vs (s : Nat × Nat) : Prop := s.2 < gM ∧ s.2 ≠ 1973665155
theorem Vs.tk {s : Nat × Nat} (h : Vs s) (m : Nat) : Vs (tk m s).2 := by
  unfold RG.tk
  split
  · exact h
  · exact ⟨gn_lt _, gn_ne h.1 h.2⟩
theorem Vs.tks {s : Nat × Nat} (h : Vs s) (m : Nat) : ∀ n, Vs (tks m n s).2
  | 0 => h
  | n + 1 => (Vs.tks h m n).tk m
/-- the seed's digits end -/
theorem tks_seed {m : Nat} (hm : 2 ≤ m) (s : Nat × Nat) : ∀ n, (tks m n s).2.1 ≤ s.1 / 2 ^ n
  | 0 => by simp [tks]
  | n + 1 => by
    have ih := tks_seed hm s n
    show (tk m (tks m n s).2).2.1 ≤ _
    unfold tk
    rw [Nat.pow_succ, ← Nat.div_div_eq_div_mul]
    split
    · show (tks m n s).2.1 / m ≤ _
      exact Nat.le_trans (Nat.div_le_div_left hm (by decide)) (Nat.div_le_div_right ih)
    · rename_i h
      show (tks m n s).2.1 ≤ _
      omega
theorem gi_snoc (b n : Nat) : gi b (n + 1) = gn (gi b n) := gi_add b n 1
/-- draws when the seed is used up -/
theorem tks_0 (m b : Nat) : ∀ n, tks m n (0, b) = ((List.range n).map fun j => gi b (j + 1) / 7 % m, (0, gi b n))
  | 0 => rfl
  | n + 1 => by
    rw [tks, tks_0 m b n, List.range_succ, List.map_append]
    show (_ ++ [(tk m (0, gi b n)).1], (tk m (0, gi b n)).2) = _
    have : tk m (0, gi b n) = (gn (gi b n) / 7 % m, (0, gn (gi b n))) := rfl
    rw [this, gi_snoc]
    show (_ ++ [gn (gi b n) / 7 % m], (0, gn (gi b n))) = (_ ++ [gi b (n + 1) / 7 % m], (0, gn (gi b n)))
    rw [gi_snoc]
section
variable {m : Nat} [hp : PrimeP m]
theorem of_mul {α : Type} [Field α] [DecidableEq α] (a b : List α) : of (mulL a b) = of a * of b := ext fun i => by
  rw [co_of, co_mul, mulL_congL (of b).c (a := (of a).c) (b := a) (co_of a) i, mulL_congR a (b := (of b).c) (c := b) (co_of b) i]
theorem of_add {α : Type} [Field α] [DecidableEq α] (a b : List α) : of (addL a b) = of a + of b := ext fun i => by
  rw [co_of, co_add, co_addL, co_of, co_of]
theorem of_der {α : Type} [Field α] [DecidableEq α] (a : List α) : (of a).der = of (derL 1 a.tail) := ext fun i => by
  rw [co_der, co_of, co_of, co_derL, co_tail, Nat.add_comm 1 i]
/-- the radicand of the drawn rests -/
def radl (m : Nat) [PrimeP m] (l : List Nat) : List (Fin m) := l.map (Fin.ofNat m) ++ [1]
def rad (m : Nat) [PrimeP m] (l : List Nat) : Poly (Fin m) := of (radl m l)
theorem rad_c (l : List Nat) : (rad m l).c = radl m l := trim_of_last fun _ => by
  unfold radl
  rw [List.length_append, List.length_map]
  show co _ (l.length + 1 - 1) ≠ 0
  rw [Nat.add_sub_cancel]
  have : co (l.map (Fin.ofNat m) ++ [1]) l.length = 1 := by
    unfold co
    rw [List.getD_eq_getElem?_getD, List.getElem?_append_right (by simp)]
    simp
  rw [this]
  exact fun z => fin_01 z.symm
theorem rad_len (l : List Nat) : (rad m l).len = l.length + 1 := by
  unfold Poly.len
  rw [rad_c, radl]
  simp
theorem rad_lc (l : List Nat) : (rad m l).lc = 1 := by
  unfold Poly.lc
  rw [rad_len, Nat.add_sub_cancel, rad_c]
  unfold radl co
  rw [List.getD_eq_getElem?_getD, List.getElem?_append_right (by simp)]
  simp
/-- it has no square in it: Bezout -/
def Bz (m : Nat) [PrimeP m] (l : List Nat) : Prop := ∃ u v : Poly (Fin m), u * rad m l + v * (rad m l).der = 1
def bzB (m : Nat) [PrimeP m] (l u v : List Nat) : Bool := trim (addL (mulL (u.map (Fin.ofNat m)) (radl m l)) (mulL (v.map (Fin.ofNat m)) (derL 1 (radl m l).tail))) == [1]
theorem bz_of {l u v : List Nat} (h : bzB m l u v = true) : Bz m l := by
  refine ⟨of (u.map (Fin.ofNat m)), of (v.map (Fin.ofNat m)), ?_⟩
  unfold rad
  rw [of_der, ← of_mul, ← of_mul, ← of_add]
  apply ext'
  show trim _ = trim [1]
  rw [eq_of_beq h]
  exact (trim_of_last fun _ => fun z => fin_01 z.symm).symm
/-- what is checked by calculation for a prime and a degree -/
structure Wit (m D : Nat) [PrimeP m] : Prop where
  ex : ∃ w c t, w < gM ∧ w ≠ 1973665155 ∧ 0 < c ∧ t * D % gL = c % gL ∧ ∀ j, j < c → Bz m (tks m D (0, gi w j)).1
theorem bz_term {D : Nat} (hD : 0 < D) (W : Wit m D) {s : Nat × Nat} (hs : Vs s) : ∃ n, Bz m (tks m D (tks m (D * n) s).2).1 := by
  obtain ⟨w, c, t, hw, hw', hc, ht, hB⟩ := W.ex
  have h0 : (tks m (D * (s.1 + 1)) s).2.1 = 0 := by
    have h1 := tks_seed hp.two s (D * (s.1 + 1))
    have h2 : s.1 < 2 ^ (D * (s.1 + 1)) := Nat.lt_of_lt_of_le Nat.lt_two_pow_self (Nat.pow_le_pow_right (by decide) (Nat.le_trans (Nat.le_succ _) (Nat.le_mul_of_pos_left _ hD)))
    rw [Nat.div_eq_of_lt h2] at h1
    omega
  have hv := hs.tks m (D * (s.1 + 1))
  generalize hx : (tks m (D * (s.1 + 1)) s).2 = y at h0 hv
  obtain ⟨a, b⟩ := y
  have h0 : a = 0 := h0
  subst h0
  obtain ⟨q, j, hj, hq⟩ := gi_meet hv.1 hv.2 hw hw' hc ht
  refine ⟨s.1 + 1 + q, ?_⟩
  rw [Nat.mul_add, tks_add, hx, tks_0, Nat.mul_comm D q, hq]
  exact hB j hj
end
theorem gcell {S : Store} {i : Nat} {c : Cell} (hi : i < S.length) : (S.set i c)[i]? = some c := by
  rw [List.getElem?_set_self hi]
theorem set_same {S : Store} {i : Nat} {c : Cell} (h : S[i]? = some c) : S.set i c = S := by
  have hi := get_lt h
  rw [List.getElem?_eq_getElem hi] at h
  cases h
  exact List.set_getElem_self hi
/-- the program's text has the law's draws and polynomials -/
structure DrOk (P : Prog) : Prop where
  f94 : P.fn 94 = some F94
  lf : LfOk P
  lp : LpOk P
  f120 : P.fn 120 = some F120
  f121 : P.fn 121 = some F121
variable {P : Prog}
theorem drawn_w (H : DrOk P) (h212 : P.fn 212 = some F212_1) (m : Nat) [hp : PrimeP m] (hz : m ≤ 100000) {g : Nat} (hD : 0 < g) (hDz : g ≤ 900) (W : Wit m g) {S : Store} {i : Nat} {s : Nat × Nat} (hS : S[i]? = some (stc s)) (hs : Vs s) :
    Wc P 8 212 [.ref i, .int (m : Int), .int (g : Int)] S (fun v S' => ∃ l s', v = (lfc H.lf m hz).po (rad m l) ∧ l.length = g ∧ (∀ N : Poly (Fin m), rad m l = N * N → N.len ≤ 1) ∧ Vs s' ∧ S' = S.set i (stc s')) (fun _ _ => False) := by
  have hi := get_lt hS
  have hm2 := hp.two
  obtain ⟨n0, hn0⟩ := bz_term hD W hs
  refine Wc.of (k := 7) h212 rfl (by decide) ?_
  repeat infer_instance
  refine Ws.whl (fun n ρ S' => ∃ s v3 v4, Vs s ∧ Bz m (tks m g (tks m (g * n) s).2).1 ∧ ρ = [some (.ref i), some (.int (m : Int)), some (.int (g : Int)), v3, v4] ∧ S' = S.set i (stc s)) n0 ?_ ?_
  · refine ⟨s, _, _, hs, hn0, rfl, ?_⟩
    rw [set_same hS]
  · rintro n ρ S' ⟨s, v3, v4, hs, hn, rfl, rfl⟩
    repeat infer_instance
    refine Wl.comp (fun j acc S' => acc = (tks m j s).1.map (fun (x : Nat) => D.int (x : Int)) ∧ S' = S.set i (stc (tks m j s).2)) ((List.range g).map fun (j : Nat) => D.int (j : Int)) none ?_ ?_ ?_
    · repeat infer_instance
      exact ⟨_, _, rfl, rfl, _root_.decide_eq_true ⟨by omega, by omega, by omega, by omega⟩, rng_up0, rfl, rfl, rfl⟩
    · rintro j x acc S' hx ⟨rfl, rfl⟩
      obtain ⟨hj, rfl⟩ := range_get hx
      refine ⟨_, rfl, ?_⟩
      repeat infer_instance
      refine (take_w H.f94 (gcell hi) (by omega) (by omega) ?_).up (by omega)
      refine ⟨by rw [List.length_map, tks_len]; omega, rfl, ?_, ?_⟩
      · rw [tks, List.map_append]; rfl
      · rw [List.set_set]; rfl
    · rintro acc S' ⟨rfl, rfl⟩
      rw [List.length_map, List.length_range]
      have hll : (tks m g s).1.length = g := tks_len m g s
      have hlt := tks_lt (by omega : 0 < m) g s
      have hv := hs.tks m g
      have hn0' : n = 0 → Bz m (tks m g s).1 := fun z => by subst z; exact hn
      generalize hl : (tks m g s).1 = l at hll hlt hn0'
      generalize hs' : (tks m g s).2 = s' at hv
      have he : .tup (l.map (fun (x : Nat) => D.int (x : Int)) ++ [.int 1]) = (lfc H.lf m hz).po (rad m l) := by
        show _ = D.tup ((lfc H.lf m hz).encs (rad m l).c)
        rw [rad_c]
        unfold Lf.encs radl
        rw [List.map_append, List.map_map]
        congr 2
        · refine List.map_congr_left fun x hx => ?_
          show D.int (x : Int) = D.int ((Fin.ofNat m x).val : Int)
          rw [Fin.val_ofNat, Nat.mod_eq_of_lt (hlt x hx)]
        · show [D.int 1] = [D.int ((1 : Fin m).val : Int)]
          rw [fin_one]; rfl
      obtain ⟨b, hb1, hb2, hb3⟩ := (lfc H.lf m hz).fsqf H.lp H.f120 H.f121 (rad m l) (by rw [rad_len]; omega) (by rw [rad_len]; omega)
      repeat infer_instance
      refine Bn.addT (by rw [List.length_map]; show l.length + 1 ≤ 1000; omega) ?_
      rw [he]
      repeat infer_instance
      refine hb1.w (by show 1 + 5 ≤ 7; omega) ?_
      cases b with
      | true =>
        repeat infer_instance
        exact Rt.lt ((lfc H.lf m hz).po_lt _ _) ⟨l, s', rfl, hll, hb2 rfl, hv, by rw [List.take_of_length_le (by rw [List.length_set]; omega)]⟩
      | false =>
        repeat infer_instance
        have h0 : n ≠ 0 := fun z => by
          obtain ⟨u, v, e⟩ := hn0' z
          have := hb3 ⟨u, v, e⟩
          cases this
        refine ⟨n - 1, by omega, s', _, _, hv, ?_, rfl, rfl⟩
        rw [← hs', ← tks_add]
        have : g + g * (n - 1) = g * n := by
          have e : n = (n - 1) + 1 := by omega
          conv => rhs; rw [e, Nat.mul_add, Nat.mul_one]
          omega
        rw [this]
        exact hn
end RG
set_option Elab.async false
set_option linter.all false
set_option maxRecDepth 100000
/-! From every number the chain of numbers comes to a squarefree radicand: printed by wit.py. -/
namespace RG
theorem wit_of {m D : Nat} [PrimeP m] (w c t : Nat) (us : List (List Nat × List Nat)) (h1 : w < gM) (h2 : w ≠ 1973665155) (h3 : 0 < c) (h4 : t * D % gL = c % gL) (h5 : us.length = c) (h6 : ((List.range c).all fun j => bzB m (tks m D (0, gi w j)).1 (us.getD j ([], [])).1 (us.getD j ([], [])).2) = true) : Wit m D :=
  ⟨⟨w, c, t, h1, h2, h3, h4, fun j hj => by
    rw [List.all_eq_true] at h6
    exact bz_of (h6 j (List.mem_range.mpr hj))⟩⟩
theorem wit_3_2 : Wit 3 2 := wit_of 7 2 1 [([1], [2, 1]), ([1], [0, 1])] (by decide +kernel) (by decide) (by decide) (by decide) (by decide) (by decide +kernel)
theorem wit_3_4 : Wit 3 4 := wit_of 1 2 536870912 [([1, 1], [1, 1, 2]), ([1, 2], [0, 1, 1])] (by decide +kernel) (by decide) (by decide) (by decide) (by decide) (by decide +kernel)
theorem wit_3_6 : Wit 3 6 := wit_of 1 6 1 [([2], [1, 0, 2]), ([1], [0, 2, 2]), ([0, 2], [1, 1, 0, 0, 2]), ([2], [1, 0, 2, 2, 1, 2]), ([2, 2, 1], [0, 0, 1, 0, 1]), ([2], [1, 1, 0, 1])] (by decide +kernel) (by decide) (by decide) (by decide) (by decide) (by decide +kernel)
theorem wit_5_2 : Wit 5 2 := wit_of 1 2 1 [([1], [3, 2]), ([3], [4, 1])] (by decide +kernel) (by decide) (by decide) (by decide) (by decide) (by decide +kernel)
theorem wit_5_4 : Wit 5 4 := wit_of 2 2 536870912 [([2, 1, 3], [4, 0, 4, 3]), ([2, 3], [4, 0, 3])] (by decide +kernel) (by decide) (by decide) (by decide) (by decide) (by decide +kernel)
theorem wit_7_2 : Wit 7 2 := wit_of 1 2 1 [([3], [3, 2]), ([4], [2, 5])] (by decide +kernel) (by decide) (by decide) (by decide) (by decide) (by decide +kernel)
theorem wit_7_4 : Wit 7 4 := wit_of 1 2 536870912 [([3], [3, 1]), ([2, 6, 1], [6, 2, 3, 5])] (by decide +kernel) (by decide) (by decide) (by decide) (by decide) (by decide +kernel)
theorem wit_11_2 : Wit 11 2 := wit_of 1 2 1 [([10], [5, 6]), ([2], [5, 10])] (by decide +kernel) (by decide) (by decide) (by decide) (by decide) (by decide +kernel)
theorem wit_11_4 : Wit 11 4 := wit_of 1 2 536870912 [([8, 9, 2], [5, 8, 0, 5]), ([8, 1, 4], [6, 1, 3, 10])] (by decide +kernel) (by decide) (by decide) (by decide) (by decide) (by decide +kernel)
end RG
set_option Elab.async false
set_option linter.all false
set_option maxRecDepth 100000
/-! Law k97: units. -/
namespace RG
open PySem Lean.Grind Poly
local macro_rules | `(tactic| infer_instance) => `(tactic| first
  | refine Wb.cons ?_ | refine Wb.nil ?_ | refine Ws.set ?_ | refine Ws.ret ?_ | refine Ws.ife ?_ | refine Ws.par ?_ | refine Ws.unp ?_ | refine Ws.pass ?_ | refine Ws.cont ?_ | refine Ws.retN ?_ | refine Ws.expr ?_
  | refine We.var rfl ?_ | refine We.lit ?_ | refine We.bin ?_ | refine We.idx ?_ | refine We.call ?_ | refine We.tup ?_ | refine We.bi ?_ | refine We.and ?_ | refine We.or ?_ | refine We.not ?_ | refine We.ite ?_ | refine We.neg ?_ | refine We.isN ?_ | refine We.own ?_ | refine We.frz ?_
  | refine Wes.cons ?_ | refine Wes.nil ?_ | refine Wl.disp ?_ | refine Wl.cat ?_ | refine Wl.rep ?_ | refine Wi.rng ?_ | refine Wi.seq ?_
  | refine Bn.add ?_ | refine Bn.sub ?_ | refine Bn.lt ?_ | refine Bn.le ?_ | refine Bn.gt ?_ | refine Bn.ge ?_ | refine Bn.eqI ?_ | refine Bn.neI ?_ | refine Bo.t ?_ | refine Bo.f ?_ | refine Bo.mk ?_ ?_ | refine ⟨_, rfl, ?_⟩)
section
variable {α : Type} [Field α] [DecidableEq α]
def pw (c : α) : Nat → α
  | 0 => 1
  | n + 1 => pw c n * c
def nrm (R : Poly α) (x : Poly α × Poly α) : Poly α := x.1 * x.1 - R * (x.2 * x.2)
theorem nrm_upr (R : Poly α) (x y : Poly α × Poly α) : nrm R (upr R x y) = nrm R x * nrm R y := norm_mul R x y
theorem pw_ne {c : α} (h : c ≠ 0) : ∀ n, pw c n ≠ 0
  | 0 => fun z => Field.zero_ne_one z.symm
  | n + 1 => mul_ne (pw_ne h n) h
theorem nrm_upow {R : Poly α} {x : Poly α × Poly α} {c : α} (h : nrm R x = C c) : ∀ n, nrm R (upow R x n) = C (pw c n)
  | 0 => by
    show (1 : Poly α) * 1 - R * (0 * 0) = C 1
    have : (C 1 : Poly α) = 1 := rfl
    rw [this]; grind
  | n + 1 => by
    show nrm R (upr R (upow R x n) x) = C (pw c n * c)
    rw [nrm_upr, nrm_upow h n, h, C_mul]
theorem upow_led {R : Poly α} {h : Nat} {x : Poly α × Poly α} (h2 : (1 : α) + 1 ≠ 0) (hR : R.len = 2 * h + 1) (hRc : R.lc = 1) (hx : Led h x) : ∀ n, Led h (upow R x (n + 1)) ∧ (upow R x (n + 1)).1.len = (n + 1) * (x.1.len - 1) + 1
  | 0 => by
    have e : upow R x 1 = x := by
      show (1 * x.1 + R * (0 * x.2), 1 * x.2 + 0 * x.1) = x
      have e1 : 1 * x.1 + R * (0 * x.2) = x.1 := by grind
      have e2 : 1 * x.2 + 0 * x.1 = x.2 := by grind
      rw [e1, e2]
    have := hx.len
    have := hx.q0
    rw [Nat.zero_add, e]
    exact ⟨hx, by omega⟩
  | n + 1 => by
    obtain ⟨h3, h4⟩ := upow_led h2 hR hRc hx n
    have h5 := Led.mul (R := R) h2 hR hRc h3 hx
    have h6 := hx.len
    have h7 := hx.q0
    refine ⟨h5.1, ?_⟩
    have h8 : (upow R x (n + 1 + 1)).1.len = (upow R x (n + 1)).1.len + x.1.len - 1 := h5.2
    rw [h8, h4, Nat.add_mul (n + 1) 1]
    omega
theorem upow_len {R : Poly α} {h : Nat} {x : Poly α × Poly α} (h2 : (1 : α) + 1 ≠ 0) (hR : R.len = 2 * h + 1) (hRc : R.lc = 1) (hx : Led h x) (n : Nat) : (upow R x n).1.len = n * (x.1.len - 1) + 1 ∧ (upow R x n).2.len ≤ n * (x.1.len - 1) + 1 ∧ (0 < (upow R x n).2.len ↔ 0 < n) := by
  cases n with
  | zero =>
    have ho := one_lc (α := α)
    refine ⟨?_, ?_, ?_⟩
    · show (1 : Poly α).len = _; rw [ho.1]; omega
    · show (0 : Poly α).len ≤ _; rw [len_0]; omega
    · show 0 < (0 : Poly α).len ↔ _; rw [len_0]
  | succ n =>
    obtain ⟨h3, h4⟩ := upow_led h2 hR hRc hx n
    have h5 := h3.len
    have h6 := h3.q0
    exact ⟨h4, by omega, by omega⟩
theorem unit_c {R A : Poly α} {h N : Nat} (k : CsOk R A h N) (h1 : (cs R A N).Q.len = 1) : ∃ c : α, c ≠ 0 ∧ nrm R ((cs R A N).p, (cs R A N).q) = C c := by
  obtain ⟨s, hs, e⟩ := k.nw
  have ho := one_lc (α := α)
  have hs0 : s ≠ 0 := fun z => by
    rw [z] at hs
    apply one_ne (α := α)
    rw [← hs]; grind
  have hsl := (len_mul hs0 hs0).1
  rw [hs, ho.1] at hsl
  have hm := (len_mul hs0 k.qn).1
  rw [h1] at hm
  have hsp := len_pos hs0
  have hl : (nrm R ((cs R A N).p, (cs R A N).q)).len = 1 := by
    show ((cs R A N).p * (cs R A N).p - R * ((cs R A N).q * (cs R A N).q)).len = 1
    rw [e]; omega
  refine ⟨co (nrm R ((cs R A N).p, (cs R A N).q)).c 0, fun z => ?_, len_one _ hl⟩
  have := len_one _ hl
  rw [z] at this
  have h0 : (C (0 : α)) = 0 := rfl
  rw [h0] at this
  rw [this, len_0] at hl
  omega
end
section
variable {P : Prog}
/-- PrimeField(m) -/
theorem mk_pf (H : PfOk P) (hi : P.init 5 = some 176) (h176 : P.fn 176 = some F176) {k : Nat} {ρ : Env} {e : E} {m : Nat} (hk : 1 ≤ k) (he : Ev P k e ρ (.int (m : Int))) : Ev P k (.mk 5 (.cons e .nil)) ρ (pfo m) := fun d S => by
  have c : callF P (d + k) 176 [.ref S.length, .int (m : Int)] (S ++ [.ins 5 [] []]) = ret .non (S ++ [.ins 5 [28] [.int (m : Int)]]) := by
    obtain ⟨j, rfl⟩ : ∃ j, k = j + 1 := ⟨k - 1, by omega⟩
    rw [show d + (j + 1) = d + j + 1 by omega, call_eq h176 rfl (by decide), B176, execs_cons, exec, ev_var (d := .int (m : Int)) rfl, stp_ret]
    have e1 : (S ++ [Cell.ins 5 [] []])[S.length]? = some (.ins 5 [] []) := cell_at _ _
    show fin false _ (sq (match (S ++ [Cell.ins 5 [] []])[S.length]? with
      | some (.ins c ks vs) => if P.fok c 28 && (D.int (m : Int)).lt S.length && !ks.contains 28 && decide (ks.length = vs.length) && decide (ks.length < 50) then some (Out.nx _ ((S ++ [Cell.ins 5 [] []]).set S.length (.ins c (ks ++ [28]) (vs ++ [.int (m : Int)])))) else none
      | _ => none) _) = _
    rw [e1]
    dsimp only
    rw [H.fok]
    have e2 : (D.int (m : Int)).lt S.length = true := rfl
    rw [e2]
    show fin false _ (sq (some (Out.nx _ _)) _) = _
    rw [sq_nx, execs]
    show ret D.non _ = _
    congr 1
    rw [cell_set, List.take_of_length_le (by simp)]
    rfl
  rw [ev, evs, he, bnd_ret, evs, bnd_ret, bnd_ret, hi]
  dsimp only
  rw [c]
  show (match (S ++ [Cell.ins 5 [28] [.int (m : Int)]])[S.length]? with
    | some (.ins c' ks vs) => if c' = 5 ∧ D.lts S.length vs = true then ret (D.obj 5 ks vs) ((S ++ [Cell.ins 5 [28] [.int (m : Int)]]).take S.length) else none
    | _ => none) = _
  rw [cell_at]
  dsimp only
  rw [if_pos ⟨rfl, by rw [D.lts, D.lts]; rfl⟩, take_cell]
  rfl
theorem ne_self {k : Nat} {d : D} (hk : k ≤ 20) (h : nst k d = true) : binop .ne d d = some (.bl false) := by
  have hp := nst_plain hk h
  have hr := eqv_refl hp
  by_cases hi : ∃ i, d = .int i
  · obtain ⟨i, rfl⟩ := hi
    show some (D.bl (!(i == i))) = _
    simp
  · have e : binop .ne d d = if d.plain 20 && d.plain 20 then some (.bl (!d.eqv d)) else none := by
      cases d <;> first | rfl | exact absurd ⟨_, rfl⟩ hi
    rw [e, hp, hr]; rfl
theorem nst_tup {k : Nat} {xs : List D} (hl : xs.length ≤ 100000) (h : ∀ x, x ∈ xs → nst k x = true) : nst (k + 1) (.tup xs) = true := by
  rw [nst, Bool.and_eq_true, nsts_all]
  exact ⟨_root_.decide_eq_true hl, h⟩
theorem nst_po (H : LfOk P) {m : Nat} [PrimeP m] (hz : m ≤ 100000) {p : Poly (Fin m)} (hp : p.len ≤ 100000) : nst 1 ((lfc H m hz).po p) = true := nst_tup (by rw [Lf.encs_len]; exact hp) fun x hx => by
  obtain ⟨a, _, rfl⟩ := List.mem_map.mp hx
  unfold nst
  rfl
theorem nst_pr (H : LfOk P) {m : Nat} [PrimeP m] (hz : m ≤ 100000) {x : Poly (Fin m) × Poly (Fin m)} (h1 : x.1.len ≤ 100000) (h2 : x.2.len ≤ 100000) : nst 2 ((lfc H m hz).pr x) = true := nst_tup (by show 2 ≤ 100000; decide) fun y hy => by
  rcases List.mem_cons.mp hy with rfl | hy
  · exact nst_po H hz h1
  rcases List.mem_cons.mp hy with rfl | hy
  · exact nst_po H hz h2
  · cases hy
end
end RG
set_option Elab.async false
set_option linter.all false
set_option maxRecDepth 100000
/-! Law k97: the law's defs. -/
namespace RG
open PySem Lean.Grind Poly
local macro_rules | `(tactic| infer_instance) => `(tactic| first
  | refine Wb.cons ?_ | refine Wb.nil ?_ | refine Ws.set ?_ | refine Ws.ret ?_ | refine Ws.ife ?_ | refine Ws.par ?_ | refine Ws.unp ?_ | refine Ws.pass ?_ | refine Ws.cont ?_ | refine Ws.retN ?_ | refine Ws.expr ?_
  | refine We.var rfl ?_ | refine We.lit ?_ | refine We.bin ?_ | refine We.idx ?_ | refine We.call ?_ | refine We.tup ?_ | refine We.bi ?_ | refine We.and ?_ | refine We.or ?_ | refine We.not ?_ | refine We.ite ?_ | refine We.neg ?_ | refine We.isN ?_ | refine We.own ?_ | refine We.frz ?_
  | refine Wes.cons ?_ | refine Wes.nil ?_ | refine Wl.disp ?_ | refine Wl.cat ?_ | refine Wl.rep ?_ | refine Wi.rng ?_ | refine Wi.seq ?_
  | refine Bn.add ?_ | refine Bn.sub ?_ | refine Bn.lt ?_ | refine Bn.le ?_ | refine Bn.gt ?_ | refine Bn.ge ?_ | refine Bn.eqI ?_ | refine Bn.neI ?_ | refine Bo.t ?_ | refine Bo.f ?_ | refine Bo.mk ?_ ?_ | refine ⟨_, rfl, ?_⟩)
structure K97 (P : Prog) : Prop where
  pf : PfOk P
  po : PolyOk P
  ch : ChOk P
  dr : DrOk P
  vl : ValOk P
  i5 : P.init 5 = some 176
  m8 : P.meth 5 8 = some 188
  m19 : P.meth 5 19 = some 186
  f176 : P.fn 176 = some F176
  f186 : P.fn 186 = some F186
  f188 : P.fn 188 = some F188
  f208 : P.fn 208 = some F208
  f215 : P.fn 215 = some F215
  f216 : P.fn 216 = some F216
  f221 : P.fn 221 = some F221
  f222 : P.fn 222 = some F222
  f209 : P.fn 209 = some F209
  f211 : P.fn 211 = some F211
  f224 : P.fn 224 = some F224
  f212 : P.fn 212 = some F212_1
  f228 : P.fn 228 = some F228_3
  f377 : P.fn 377 = some F377
  f93 : P.fn 93 = some F93
variable {P : Prog}
theorem Ev.prime (H : PfOk P) {k : Nat} {ρ : Env} {m : Nat} {i : Nat} (h : ρ[i]? = some (some (pfo m))) : Ev P k (.fld (.var i) 28) ρ (.int (m : Int)) := fun d S => prime_fld H.fok (ev_var h)
theorem pf_two (H : K97 P) (m : Nat) [hp : PrimeP m] (hz : m < 1000000) (h3 : 3 ≤ m) : (pfc H.pf m hz).Two := by
  refine ⟨188, H.m8, rfl, Wc.fnv fun S => Wc.of (k := 3) H.f188 rfl (by decide) ?_⟩
  have e2 : ((2 : Int)).fmod (m : Int) = ((2 : Nat) : Int) := by
    have := fmod_nat 2 m
    rw [Nat.mod_eq_of_lt (by omega)] at this
    exact this
  have e1 : ((1 : Int)).fmod (m : Int) = ((1 : Nat) : Int) := by
    have := fmod_nat 1 m
    rw [Nat.mod_eq_of_lt (by omega)] at this
    exact this
  have v1 : ((1 : Fin m)).val = 1 := fin_one
  have v2 : ((1 + 1 : Fin m)).val = 2 := by rw [Fin.val_add, v1, Nat.mod_eq_of_lt (by omega)]
  refine Wb.cons (Ws.ret (We.meth (c := 5) (ks := [28]) (ws := [.int (m : Int)]) (Ev.var rfl) H.m19 rfl ?_))
  repeat infer_instance
  refine Ix.of 0 rfl rfl rfl ?_
  refine (Ev.prime H.pf rfl).w (Nat.le_refl _) (Bn.mod (by omega) ?_)
  repeat infer_instance
  refine Ix.of 1 rfl rfl rfl ?_
  refine (Ev.prime H.pf rfl).w (Nat.le_refl _) (Bn.mod (by omega) ?_)
  rw [e1, e2]
  repeat infer_instance
  have a2 : D.int ((2 : Nat) : Int) = (pfc H.pf m hz).enc (1 + 1) := by show _ = D.int (((1 + 1 : Fin m).val : Nat) : Int); rw [v2]
  have a1 : D.int ((1 : Nat) : Int) = (pfc H.pf m hz).enc 1 := by show _ = D.int (((1 : Fin m).val : Nat) : Int); rw [v1]
  rw [a2, a1]
  refine Wc.of (k := 2) H.f186 rfl (by decide) ?_
  refine Wb.cons (Ws.ret ((pfc H.pf m hz).wmul (Nat.le_refl _) rfl (We.var rfl ⟨_, rfl, (pfc H.pf m hz).winv (Nat.le_refl _) rfl (We.var rfl ⟨_, rfl, fun z => fin_01 z.symm, ⟨_, rfl, ?_⟩⟩)⟩)))
  have e : ((1 + 1 : Fin m)) * (1)⁻¹ = 1 + 1 := by grind
  rw [e]
  refine Rt.lt rfl ?_
  rw [List.take_length]
  exact Rt.lt rfl ⟨rfl, List.take_length⟩
/-- what is known of a drawn radicand -/
structure Rd (m h : Nat) [PrimeP m] (R A : Poly (Fin m)) : Prop where
  h3 : 3 ≤ m
  mz : m ≤ 1000
  hz : h ≤ 10
  len : R.len = 2 * h + 1
  lc : R.lc = 1
  ok : ∀ n, CsOk R A h n
theorem finPow_pw {m : Nat} [PrimeP m] (c : Fin m) : ∀ n, finPow c n = pw c n
  | 0 => rfl
  | n + 1 => by show finPow c n * c = pw c n * c; rw [finPow_pw c n]
theorem po_C {m : Nat} [PrimeP m] (H : LfOk P) (hz : m ≤ 100000) {c : Fin m} (hc : c ≠ 0) : (lfc H m hz).po (C c) = .tup [.int (c.val : Int)] := by
  show D.tup ((C c).c.map fun a => D.int (a.val : Int)) = _
  have : (C c).c = [c] := trim_of_last fun _ => hc
  rw [this]; rfl
theorem unit_holds (H : K97 P) {m h : Nat} [hp : PrimeP m] {R A : Poly (Fin m)} (hz1 : m < 1000000) (hz2 : m ≤ 100000) (r : Rd m h R A) {S : Store} {i : Nat} {s : Nat × Nat} (hS : S[i]? = some (stc s)) (hs : Vs s) :
    Wc P 12 228 [.ref i, .int (m : Int), (lfc H.dr.lf m hz2).po R] S (fun v S' => v = .bl true ∧ ∃ s', Vs s' ∧ S' = S.set i (stc s')) (fun _ _ => False) := by
  have hi := get_lt hS
  have h3 := r.h3
  have hh := r.hz
  have hl := r.len
  have h2 := (r.ok 0).h2
  have htwo := pf_two H m hz1 h3
  have keep : S.set i (stc s) = S := set_same hS
  refine Wc.of (k := 11) H.f228 rfl (by decide) ?_
  repeat infer_instance
  refine (mk_pf H.pf H.i5 H.f176 (k := 11) (by omega) (Ev.var rfl)).w (Nat.le_refl _) ?_
  repeat infer_instance
  rcases (lfc H.dr.lf m hz2).fleast H.dr.lp H.f224 H.f211 r.ok hl r.lc hh 200 (by omega) with ⟨N, hN, hNm, hleast⟩ | hleast
  · refine hleast.w (by show 1 + 5 ≤ 11; omega) ?_
    have hk := r.ok N
    have kz := hk.pz
    have kq := hk.qz
    have k4 : N * h ≤ 200 * 10 := Nat.mul_le_mul hNm hh
    have hled := (hk.pos hN.pos).2.2.2
    obtain ⟨c, hc0, hc⟩ := unit_c hk hN.at_
    have hun := (pfc H.pf m hz1).funit H.po H.ch H.f215 htwo r.ok hl r.lc hh hN (by omega)
    have hnow : (pfc H.pf m hz1).now (cs R A N) = (lfc H.dr.lf m hz2).now (cs R A N) := rfl
    rw [hnow] at hun
    have hnst : nst 2 ((lfc H.dr.lf m hz2).now (cs R A N)) = true := nst_pr H.dr.lf hz2 (by show (cs R A N).p.len ≤ _; omega) (by show (cs R A N).q.len ≤ _; omega)
    generalize hx : ((cs R A N).p, (cs R A N).q) = x at hled hc
    have hxn : (lfc H.dr.lf m hz2).now (cs R A N) = (lfc H.dr.lf m hz2).pr x := by rw [← hx]; rfl
    rw [hxn] at hun hnst ⊢
    have hx1 : x.1.len ≤ 2001 := by rw [← hx]; show (cs R A N).p.len ≤ _; omega
    have hx2 : x.2.len ≤ 2001 := by rw [← hx]; show (cs R A N).q.len ≤ _; omega
    repeat infer_instance
    refine hun.w (by show 2 + 5 ≤ 11; omega) ?_
    repeat infer_instance
    refine (fhonest H.vl 2 _ (by omega) hnst).w (by omega) ?_
    repeat infer_instance
    refine (fsame H.vl 2 _ (by omega) hnst).w (by omega) ?_
    have hR10 : R.len ≤ 21 := by omega
    have nb : ∀ y : Poly (Fin m) × Poly (Fin m), y.1.len ≤ 10000 → y.2.len ≤ 10000 → Fnv P 6 208 [pfo m, (lfc H.dr.lf m hz2).po R, (lfc H.dr.lf m hz2).po y.1, (lfc H.dr.lf m hz2).po y.2] ((lfc H.dr.lf m hz2).po (nrm R y)) := fun y h1 h2 => by
      have b1 := len_mul_le y.2 y.2
      have b2 := len_mul_le R (y.2 * y.2)
      exact (pfc H.pf m hz1).fnorm H.po.f1 H.po.f5 H.po.f6 H.po.f7 H.po.f8 H.po.f9 H.f208 R y.1 y.2 (by omega) (by omega) (by omega) (by omega)
    have hCc := po_C H.dr.lf hz2 hc0
    repeat infer_instance
    refine Ix.of 0 rfl rfl rfl ?_
    repeat infer_instance
    refine Ix.of 1 rfl rfl rfl ?_
    repeat infer_instance
    refine (nb x (by omega) (by omega)).w (by omega) ?_
    rw [hc, hCc]
    repeat infer_instance
    refine (take_w H.dr.f94 (m := 4) hS (by decide) (by decide) ?_).up (by omega)
    have hkk := tk_lt (m := 4) (by decide) s
    have hvs := hs.tk 4
    generalize (tk 4 s).1 = kk at hkk ⊢
    generalize (tk 4 s).2 = s2 at hvs ⊢
    have hul := upow_len (R := R) h2 hl r.lc hled
    have hub : ∀ j, j ≤ kk → (upow R x j).1.len ≤ 10000 ∧ (upow R x j).2.len ≤ 10000 := fun j hj => by
      obtain ⟨u1, u2, _⟩ := hul j
      have : j * (x.1.len - 1) ≤ 3 * 2000 := Nat.mul_le_mul (by omega) (by omega)
      omega
    have hup := (pfc H.pf m hz1).fupow H.po H.f221 H.f222 R x kk (by omega) (by omega) ⟨by omega, by omega⟩ (fun j hj => by have := hub j (by omega); omega)
    repeat infer_instance
    refine hup.w (by show 2 + 4 ≤ 11; omega) ?_
    repeat infer_instance
    refine Ws.for_ (fun j ρ S' => ∃ v10, ρ = [some (.ref i), some (.int (m : Int)), some ((lfc H.dr.lf m hz2).po R), some (pfo m), some ((lfc H.dr.lf m hz2).pr x), some (.tup [.int (c.val : Int)]), some (.int (kk : Int)), some ((lfc H.dr.lf m hz2).po (upow R x kk).1), some ((lfc H.dr.lf m hz2).po (upow R x kk).2), some (.int ((pw c j).val : Int)), v10, none] ∧ S' = S.set i (stc s2)) ((List.range kk).map fun (j : Nat) => D.int (j : Int)) none ?_ ?_ ?_
    · repeat infer_instance
      refine ⟨_, _, rfl, rfl, _root_.decide_eq_true ⟨by omega, by omega, by omega, by omega⟩, rng_up0, rfl, none, ?_, rfl⟩
      have e1 : ((pw c 0).val : Int) = 1 := by
        show (((1 : Fin m)).val : Int) = 1
        rw [fin_one]; rfl
      rw [e1]
      rfl
    · rintro j y ρ S' hy ⟨v10, rfl, rfl⟩
      obtain ⟨hj, rfl⟩ := range_get hy
      have hmz := r.mz
      have hb : (pw c j).val < 1000000 := by have := (pw c j).isLt; omega
      refine ⟨_, rfl, ?_⟩
      repeat infer_instance
      refine Ix.of 0 rfl rfl rfl ?_
      refine Bn.mul (bits_small hb) ?_
      repeat infer_instance
      refine Bn.mod (by omega) ?_
      repeat infer_instance
      have e1 : ((((pw c j).val : Int) * (c.val : Int)).fmod (m : Int)) = ((pw c (j + 1)).val : Int) := by
        rw [← Int.natCast_mul, fmod_nat]
        show _ = ((pw c j * c).val : Int)
        rw [Fin.val_mul]
      rw [e1]
      exact ⟨rfl, _, rfl, rfl⟩
    · rintro ρ S' ⟨v10, rfl, rfl⟩
      rw [List.length_map, List.length_range]
      have hpk := pw_ne hc0 kk
      have hnk := nrm_upow hc kk
      have hCk := po_C H.dr.lf hz2 hpk
      have hnst1 : nst 1 (.tup [.int ((pw c kk).val : Int)]) = true := nst_tup (by show 1 ≤ 100000; decide) fun z hz => by
        rcases List.mem_cons.mp hz with rfl | hz
        · unfold nst; rfl
        · cases hz
      repeat infer_instance
      refine (nb (upow R x kk) (hub kk (Nat.le_refl _)).1 (hub kk (Nat.le_refl _)).2).w (by omega) ?_
      rw [hnk, hCk]
      refine We.tup (Wes.cons (We.var rfl (Wes.nil (Bn.of (ne_self (k := 1) (by omega) hnst1) (Bo.f ?_)))))
      repeat infer_instance
      refine Ix.of 0 rfl rfl rfl ?_
      repeat infer_instance
      have hle : ((((lfc H.dr.lf m hz2).encs (upow R x kk).1.c).length : Int) - 1) = (kk : Int) * ((((lfc H.dr.lf m hz2).encs x.1.c).length : Int) - 1) := by
        have h5 := (hul kk).1
        have h6 := hled.len
        have h7 := hled.q0
        rw [Lf.encs_len, Lf.encs_len]
        show (((upow R x kk).1.len : Int) - 1) = (kk : Int) * ((x.1.len : Int) - 1)
        rw [h5]
        have : ((x.1.len : Int) - 1) = ((x.1.len - 1 : Nat) : Int) := by omega
        rw [this]
        omega
      refine Bn.mul (by unfold bitsOk; rw [Bool.or_eq_true, Bool.or_eq_true]; left; left; exact _root_.decide_eq_true (by omega)) ?_
      refine Bn.neI ?_
      rw [hle, beq_self_eq_true]
      repeat infer_instance
      refine Ix.of 0 rfl rfl rfl ?_
      repeat infer_instance
      refine Ix.of 1 rfl rfl rfl ?_
      repeat infer_instance
      refine ((lfc H.dr.lf m hz2).fnegp H.dr.lp.f113 x.2 (by omega)).w (by show 1 + 1 ≤ 11; omega) ?_
      have hneg : (-x.2).len = x.2.len := len_neg _
      have hub2 : upr R x (x.1, -x.2) = (nrm R x, 0) := by
        show (x.1 * x.1 + R * (x.2 * -x.2), x.1 * -x.2 + x.2 * x.1) = (x.1 * x.1 - R * (x.2 * x.2), 0)
        have e1 : x.1 * x.1 + R * (x.2 * -x.2) = x.1 * x.1 - R * (x.2 * x.2) := by grind
        have e2 : x.1 * -x.2 + x.2 * x.1 = 0 := by grind
        rw [e1, e2]
      have hpr := (pfc H.pf m hz1).fupr H.po H.f221 R x (x.1, -x.2) (by show x.1.len + x.1.len ≤ _; omega) (by show x.2.len + (-x.2).len ≤ _; omega) (by have := len_mul_le x.2 (-x.2); show R.len + (x.2 * -x.2).len ≤ _; omega) (by show x.1.len + (-x.2).len ≤ _; omega) (by show x.2.len + x.1.len ≤ _; omega)
      rw [hub2, hc] at hpr
      have hprv : (pfc H.pf m hz1).pr (C c, 0) = .tup [.tup [.int (c.val : Int)], .tup []] := by
        show D.tup [(lfc H.dr.lf m hz2).po (C c), (pfc H.pf m hz1).po 0] = _
        rw [hCc, Fc.po_zero]
      rw [hprv] at hpr
      have hnst2 : nst 2 (.tup [.tup [.int (c.val : Int)], .tup []]) = true := nst_tup (by show 2 ≤ 100000; decide) fun z hz => by
        rcases List.mem_cons.mp hz with rfl | hz
        · exact nst_tup (by show 1 ≤ 100000; decide) fun z hz => by
            rcases List.mem_cons.mp hz with rfl | hz
            · unfold nst; rfl
            · cases hz
        rcases List.mem_cons.mp hz with rfl | hz
        · exact nst_tup (by decide) fun z hz => by cases hz
        · cases hz
      repeat infer_instance
      refine hpr.w (by show 2 + 3 ≤ 11; omega) ?_
      refine We.tup (Wes.cons (We.var rfl (Wes.cons (We.tup (Wes.nil (Wes.nil (Bn.of (ne_self (k := 2) (by omega) hnst2) (Bo.f ?_))))))))
      repeat infer_instance
      refine Ix.of 0 rfl rfl rfl ?_
      repeat infer_instance
      refine Ix.of 1 rfl rfl rfl ?_
      repeat infer_instance
      have hisu : ∀ y : Poly (Fin m) × Poly (Fin m), y.1.len ≤ 10000 → y.2.len ≤ 10000 → ∀ c' : Fin m, c' ≠ 0 → nrm R y = C c' → Fnv P 7 216 [pfo m, (lfc H.dr.lf m hz2).po R, (lfc H.dr.lf m hz2).po y.1, (lfc H.dr.lf m hz2).po y.2] (.bl (decide (0 < y.2.len))) := fun y h1 h2 c' hc' e => by
        have := (pfc H.pf m hz1).fisu H.po H.f208 H.f216 R y.1 y.2 (by omega) (by omega) (by omega)
        have e2 : (y.1 * y.1 - R * (y.2 * y.2)) = C c' := e
        rw [e2, (lc_C hc').1] at this
        have e3 : (decide (0 < y.2.len) && decide (1 = 1)) = decide (0 < y.2.len) := by simp
        rw [e3] at this
        exact this
      have hq0 := hled.q0
      refine (hisu (x.1, -x.2) (by show x.1.len ≤ _; omega) (by show (-x.2).len ≤ _; omega) c hc0 (by
        rw [← hc]
        show x.1 * x.1 - R * (-x.2 * -x.2) = x.1 * x.1 - R * (x.2 * x.2)
        grind)).w (by omega) ?_
      have e4 : decide (0 < ((x.1, -x.2) : Poly (Fin m) × Poly (Fin m)).2.len) = true := _root_.decide_eq_true (by show 0 < (-x.2).len; omega)
      rw [e4]
      repeat infer_instance
      refine (fsays H.vl true true).w (by omega) ?_
      repeat infer_instance
      refine (hisu (upow R x kk) (hub kk (Nat.le_refl _)).1 (hub kk (Nat.le_refl _)).2 _ hpk hnk).w (by omega) ?_
      repeat infer_instance
      refine (fsays H.vl _ _).w (by omega) ?_
      refine Rt.lt rfl ⟨?_, s2, hvs, by rw [List.take_of_length_le (by rw [List.length_set]; omega)]⟩
      congr 1
      rw [beq_iff_eq]
      have h8 := (hul kk).2.2
      by_cases hk0 : 0 < kk
      · rw [_root_.decide_eq_true (h8.mpr hk0), _root_.decide_eq_true (by omega)]
      · rw [_root_.decide_eq_false (fun z => hk0 (h8.mp z)), _root_.decide_eq_false (by omega)]
  · refine hleast.w (by show 1 + 5 ≤ 11; omega) ?_
    repeat infer_instance
    exact Rt.lt rfl ⟨rfl, s, hs, by rw [List.take_length, keep]⟩
end RG
set_option Elab.async false
set_option linter.all false
set_option maxRecDepth 100000
/-! Law k97: states, the law. -/
namespace RG
open PySem Lean.Grind Poly
local macro_rules | `(tactic| infer_instance) => `(tactic| first
  | refine Wb.cons ?_ | refine Wb.nil ?_ | refine Ws.set ?_ | refine Ws.ret ?_ | refine Ws.ife ?_ | refine Ws.par ?_ | refine Ws.unp ?_ | refine Ws.pass ?_ | refine Ws.cont ?_ | refine Ws.retN ?_ | refine Ws.expr ?_
  | refine We.var rfl ?_ | refine We.lit ?_ | refine We.bin ?_ | refine We.idx ?_ | refine We.call ?_ | refine We.tup ?_ | refine We.bi ?_ | refine We.and ?_ | refine We.or ?_ | refine We.not ?_ | refine We.ite ?_ | refine We.neg ?_ | refine We.isN ?_ | refine We.own ?_ | refine We.frz ?_
  | refine Wes.cons ?_ | refine Wes.nil ?_ | refine Wl.disp ?_ | refine Wl.cat ?_ | refine Wl.rep ?_ | refine Wi.rng ?_ | refine Wi.seq ?_
  | refine Bn.add ?_ | refine Bn.sub ?_ | refine Bn.lt ?_ | refine Bn.le ?_ | refine Bn.gt ?_ | refine Bn.ge ?_ | refine Bn.eqI ?_ | refine Bn.neI ?_ | refine Bo.t ?_ | refine Bo.f ?_ | refine Bo.mk ?_ ?_ | refine ⟨_, rfl, ?_⟩)
variable {P : Prog}
theorem fz_lfc (H : LfOk P) {m : Nat} [PrimeP m] (hz : m ≤ 100000) : ∀ j a, Fz (j + 3) ((lfc H m hz).enc a) := fun j a => Fz.int (j + 2) _
theorem fmem_map {f : Nat → D} {n : Nat} {x : D} (h : x ∈ (List.range n).map f) : ∃ j, x = f j := by
  obtain ⟨j, _, rfl⟩ := List.mem_map.mp h
  exact ⟨j, rfl⟩
theorem map_at {f : Nat → D} {n j : Nat} (h : j < n) : ((List.range n).map f)[j]? = some (f j) := by
  rw [List.getElem?_map, List.getElem?_range h]; rfl
theorem states_hold (H : K97 P) {m h : Nat} [hp : PrimeP m] {R A : Poly (Fin m)} (hz1 : m < 1000000) (hz2 : m ≤ 100000) (r : Rd m h R A) (n : Nat) (hn : n ≤ 100) :
    Fnv P 12 377 [.int (m : Int), (lfc H.dr.lf m hz2).po R, .int (n : Int)] (.bl true) := by
  have h3 := r.h3
  have hh := r.hz
  have hl := r.len
  have h2 := (r.ok 0).h2
  have htwo := pf_two H m hz1 h3
  have hst := (pfc H.pf m hz1).fstates H.po H.ch htwo r.ok hl r.lc (by omega) n (by omega)
  have hpa := (pfc H.pf m hz1).fpairs H.po H.ch htwo r.ok hl r.lc hh n (by omega)
  obtain ⟨B, hB, hroot⟩ := (pfc H.pf m hz1).froot H.po H.ch.f202 htwo h2 hl r.lc (r.ok 0).rt.pos (by omega)
  rw [← (r.ok 0).rt.unique h2 hB] at hroot
  have hzz : ∀ j, j ≤ n → j * h ≤ 100 * 10 := fun j hj => Nat.mul_le_mul (by omega) hh
  have pb : ∀ j, j ≤ n → (cs R A j).P.len ≤ 11 ∧ (cs R A j).Q.len ≤ 11 ∧ (csA A (cs R A j)).len ≤ 11 ∧ (cs R A j).p.len ≤ 1001 ∧ (cs R A j).q.len ≤ 1001 := fun j hj => by
    have k := r.ok j
    have := hzz j hj
    have := k.pl; have := k.ql; have := k.al; have := k.pz; have := k.qz
    omega
  have n1 : nst 3 (.tup ((List.range n).map fun j => (pfc H.pf m hz1).tri A (cs R A j))) = true := nst_tup (by simp; omega) fun x hx => by
    obtain ⟨j, hj, rfl⟩ := List.mem_map.mp hx
    have hj := List.mem_range.mp hj
    obtain ⟨b1, b2, b3, _⟩ := pb j (by omega)
    refine nst_tup (by show 3 ≤ 100000; decide) fun y hy => ?_
    rcases List.mem_cons.mp hy with rfl | hy
    · exact nst_po H.dr.lf hz2 (by omega)
    rcases List.mem_cons.mp hy with rfl | hy
    · exact nst_po H.dr.lf hz2 (by omega)
    rcases List.mem_cons.mp hy with rfl | hy
    · exact nst_po H.dr.lf hz2 (by omega)
    · cases hy
  have n2 : nst 3 (.tup ((List.range n).map fun j => (pfc H.pf m hz1).now (cs R A (j + 1)))) = true := nst_tup (by simp; omega) fun x hx => by
    obtain ⟨j, hj, rfl⟩ := List.mem_map.mp hx
    have hj := List.mem_range.mp hj
    obtain ⟨_, _, _, b1, b2⟩ := pb (j + 1) (by omega)
    exact nst_pr H.dr.lf hz2 (x := ((cs R A (j + 1)).p, (cs R A (j + 1)).q)) (by show (cs R A (j + 1)).p.len ≤ _; omega) (by show (cs R A (j + 1)).q.len ≤ _; omega)
  have hA := (r.ok 0).rt.len
  have n3 : nst 1 ((pfc H.pf m hz1).po A) = true := nst_po H.dr.lf hz2 (by omega)
  refine Wc.fnv fun S => Wc.of (k := 11) H.f377 rfl (by decide) ?_
  repeat infer_instance
  refine (mk_pf H.pf H.i5 H.f176 (k := 11) (by omega) (Ev.var rfl)).w (Nat.le_refl _) ?_
  repeat infer_instance
  have e1 : ((((lfc H.dr.lf m hz2).encs R.c).length : Int) - 1).fdiv 2 = (h : Int) := by
    have := fdiv_nat (2 * h) 2
    have hl' : ((lfc H.dr.lf m hz2).encs R.c).length = 2 * h + 1 := by rw [Lf.encs_len]; exact hl
    rw [hl']
    have e : (((2 * h + 1 : Nat) : Int) - 1) = ((2 * h : Nat) : Int) := by omega
    rw [e]
    exact this.trans (by congr 1; omega)
  rw [e1]
  refine hst.w (by show 2 + 5 ≤ 11; omega) ?_
  repeat infer_instance
  refine (fhonest H.vl 3 _ (by omega) n1).w (by omega) ?_
  repeat infer_instance
  refine hpa.w (by show 2 + 6 ≤ 11; omega) ?_
  repeat infer_instance
  refine (fhonest H.vl 3 _ (by omega) n2).w (by omega) ?_
  have hln : ∀ f : Nat → D, ((((List.range n).map f).length : Int) == (n : Int)) = true := fun f => by
    rw [List.length_map, List.length_range, beq_self_eq_true]
  refine Wes.nil ⟨_, rfl, ?_⟩
  refine Wb.cons (Ws.ife (We.or (We.bin (We.bi (Wes.cons (We.var rfl (Wes.nil ⟨_, rfl, ?_⟩)))))))
  refine We.var rfl (Bn.neI ?_)
  rw [hln]
  refine Bo.f (We.bin (We.bi (Wes.cons (We.var rfl (Wes.nil ⟨_, rfl, ?_⟩)))))
  refine We.var rfl (Bn.neI ?_)
  rw [hln]
  refine Bo.f (Wb.nil ?_)
  repeat infer_instance
  refine hroot.w (by show 2 + 4 ≤ 11; omega) ?_
  repeat infer_instance
  refine (fhonest H.vl 1 _ (by omega) n3).w (by omega) ?_
  repeat infer_instance
  have hlast : ∀ (v12 v13 : Option D) (k : Nat), 1 ≤ k → k ≤ n → Ev P 11 (.idx (.var 9) (.neg (.lit (.int 1)))) [some (.int (m : Int)), some ((lfc H.dr.lf m hz2).po R), some (.int (n : Int)), some (pfo m), some (.int (h : Int)), some (.tup ((List.range n).map fun j => (pfc H.pf m hz1).tri A (cs R A j))), some (.tup ((List.range n).map fun j => (pfc H.pf m hz1).now (cs R A (j + 1)))), some ((pfc H.pf m hz1).po A), some (.int (k : Int)), some ((pfc H.pf m hz1).po (cs R A k).P), some ((pfc H.pf m hz1).po (cs R A k).Q), some ((pfc H.pf m hz1).po (csA A (cs R A k))), v12, v13] (.int 1) := fun v12 v13 k h1 h2 => by
    have hp := ((r.ok k).pos h1)
    have e := (lfc H.dr.lf m hz2).e_last (P := P) (k := 11) (ρ := [some (.int (m : Int)), some ((lfc H.dr.lf m hz2).po R), some (.int (n : Int)), some (pfo m), some (.int (h : Int)), some (.tup ((List.range n).map fun j => (pfc H.pf m hz1).tri A (cs R A j))), some (.tup ((List.range n).map fun j => (pfc H.pf m hz1).now (cs R A (j + 1)))), some ((pfc H.pf m hz1).po A), some (.int (k : Int)), some ((pfc H.pf m hz1).po (cs R A k).P), some ((pfc H.pf m hz1).po (cs R A k).Q), some ((pfc H.pf m hz1).po (csA A (cs R A k))), v12, v13]) (e := .var 9) H.dr.lp (q := (cs R A k).P) (by omega) (Ev.var rfl)
    rw [hp.2.1] at e
    have e1 : (lfc H.dr.lf m hz2).enc 1 = .int 1 := by show D.int (((1 : Fin m)).val : Int) = _; rw [fin_one]; rfl
    rwa [e1] at e
  refine Ws.for_ (fun k ρ S' => ∃ v8 v9 v10 v11 v12 v13, ρ = [some (.int (m : Int)), some ((lfc H.dr.lf m hz2).po R), some (.int (n : Int)), some (pfo m), some (.int (h : Int)), some (.tup ((List.range n).map fun j => (pfc H.pf m hz1).tri A (cs R A j))), some (.tup ((List.range n).map fun j => (pfc H.pf m hz1).now (cs R A (j + 1)))), some ((pfc H.pf m hz1).po A), v8, v9, v10, v11, v12, v13] ∧ S' = S) ((List.range n).map fun (j : Nat) => D.int (j : Int)) none ?_ ?_ ?_
  · repeat infer_instance
    exact ⟨_, _, rfl, rfl, _root_.decide_eq_true ⟨by omega, by omega, by omega, by omega⟩, rng_up0, rfl, _, _, _, _, _, _, rfl, rfl⟩
  · rintro k x ρ S' hx ⟨v8, v9, v10, v11, v12, v13, rfl, rfl⟩
    obtain ⟨hk, rfl⟩ := range_get hx
    have K := r.ok k
    obtain ⟨b1, b2, b3, b4, b5⟩ := pb k (by omega)
    obtain ⟨Z, hZ⟩ := K.dvd
    have hq0 := len_pos K.qn
    have c1 := len_mul_le (cs R A k).P (cs R A k).P
    have c2 := len_sub_le R ((cs R A k).P * (cs R A k).P)
    have c3 := len_mul_le (csA A (cs R A k)) (cs R A k).Q
    have c4 := len_add_le (cs R A k).P A
    refine ⟨_, rfl, ?_⟩
    repeat infer_instance
    refine Ix.of k rfl rfl (map_at hk) ?_
    repeat infer_instance
    refine ((lfc H.dr.lf m hz2).fmul H.dr.lp.f111 H.dr.lp.f115 _ _ (by omega)).w (by show 1 + 2 ≤ 11; omega) ?_
    repeat infer_instance
    refine ((lfc H.dr.lf m hz2).fsub H.dr.lp.f111 H.dr.lp.f112 H.dr.lp.f113 H.dr.lp.f114 R _ (by omega)).w (by show 1 + 3 ≤ 11; omega) ?_
    repeat infer_instance
    refine ((lfc H.dr.lf m hz2).fdiv H.dr.lp.f111 H.dr.lp.f117 (a := Z) (r := 0) (by rw [hZ]; grind) (by rw [len_0]; exact hq0) (by omega)).w (by show 1 + 2 ≤ 11; omega) ?_
    repeat infer_instance
    refine Ix.of 1 rfl rfl rfl ?_
    rw [Lf.po_zero]
    have hdr := dv_spec (p := (cs R A k).P + A) K.qn
    have hrest : ((cs R A k).P + A - csA A (cs R A k) * (cs R A k).Q).len < (cs R A k).Q.len := by
      have e : (cs R A k).P + A - csA A (cs R A k) * (cs R A k).Q = (dv ((cs R A k).P + A) (cs R A k).Q).2 := by
        have h1 := hdr.1
        show (cs R A k).P + A - (dv ((cs R A k).P + A) (cs R A k).Q).1 * (cs R A k).Q = _
        grind
      rw [e]; exact hdr.2
    have f1 := (lfc H.dr.lf m hz2).fadd H.dr.lp.f111 H.dr.lp.f112 (cs R A k).P A (by omega)
    have f2 := (lfc H.dr.lf m hz2).fmul H.dr.lp.f111 H.dr.lp.f115 (csA A (cs R A k)) (cs R A k).Q (by omega)
    have f3 := (lfc H.dr.lf m hz2).fsub H.dr.lp.f111 H.dr.lp.f112 H.dr.lp.f113 H.dr.lp.f114 ((cs R A k).P + A) (csA A (cs R A k) * (cs R A k).Q) (by omega)
    by_cases hk0 : k = 0
    · subst hk0
      repeat infer_instance
      refine f1.w (by show 1 + 2 ≤ 11; omega) ?_
      repeat infer_instance
      refine f2.w (by show 1 + 2 ≤ 11; omega) ?_
      repeat infer_instance
      refine f3.w (by show 1 + 3 ≤ 11; omega) ?_
      repeat infer_instance
      · intro z
        exfalso
        have := _root_.of_decide_eq_true z
        rw [Lf.encs_len, Fc.encs_len] at this
        unfold Poly.len at hrest
        omega
      · intro _
        repeat infer_instance
        exact ⟨rfl, _, _, _, _, _, _, rfl, rfl⟩
    · have hkp : 1 ≤ k := by omega
      have hpos := K.pos hkp
      have hd : decide ((0 : Int) < (k : Int)) = true := _root_.decide_eq_true (by omega)
      refine Wes.nil ⟨_, rfl, ?_⟩
      refine We.lit (Bn.gt ?_)
      refine Bo.f ?_
      refine We.and (We.bin (We.var rfl (We.lit (Bn.gt ?_))))
      rw [hd]
      refine Bo.t ?_
      refine We.or (We.bin (We.bi (Wes.cons (We.var rfl (Wes.nil ⟨_, rfl, We.bin (We.var rfl (We.lit (Bn.add (Bn.neI ?_))))⟩)))))
      have e2 : ((((pfc H.pf m hz1).encs (cs R A k).P.c).length : Int) == (h : Int) + 1) = true := by
        rw [Fc.encs_len, beq_iff_eq]
        have := hpos.1
        unfold Poly.len at this
        omega
      rw [e2]
      refine Bo.f (We.or (We.bin ?_))
      refine (hlast _ _ k hkp (by omega)).w (Nat.le_refl _) (We.lit (Bn.neI (Bo.f ?_)))
      refine We.bin (We.bi (Wes.cons (We.var rfl (Wes.nil ⟨_, rfl, We.var rfl (Bn.gt ?_)⟩))))
      have e3 : decide ((h : Int) < (((pfc H.pf m hz1).encs (cs R A k).Q.c).length : Int)) = false := by
        rw [Fc.encs_len]
        have := hpos.2.2.1
        unfold Poly.len at this
        exact _root_.decide_eq_false (by omega)
      rw [e3]
      refine Bo.f (Wb.nil ?_)
      repeat infer_instance
      refine f1.w (by show 1 + 2 ≤ 11; omega) ?_
      repeat infer_instance
      refine f2.w (by show 1 + 2 ≤ 11; omega) ?_
      repeat infer_instance
      refine f3.w (by show 1 + 3 ≤ 11; omega) ?_
      repeat infer_instance
      · intro z
        exfalso
        have := _root_.of_decide_eq_true z
        rw [Lf.encs_len, Fc.encs_len] at this
        unfold Poly.len at hrest
        omega
      · intro _
        refine Wb.nil (Wb.cons (Ws.ife (We.and (We.bin (We.var rfl (We.lit (Bn.gt ?_)))))))
        rw [hd]
        refine Bo.t (We.bin (We.bi (Wes.cons (We.var rfl (Wes.nil ⟨_, rfl, We.lit (Bn.eqI ?_)⟩)))))
        by_cases hQ1 : (cs R A k).Q.len = 1
        · have e4 : ((((pfc H.pf m hz1).encs (cs R A k).Q.c).length : Int) == 1) = true := by
            rw [Fc.encs_len, beq_iff_eq]
            unfold Poly.len at hQ1
            omega
          rw [e4]
          obtain ⟨c, hc0, hc⟩ := unit_c K hQ1
          have hch := (lfc H.dr.lf m hz2).fchain (fz_lfc H.dr.lf hz2) H.dr.lp H.f209 H.f211 r.ok hl r.lc hh k (by omega)
          have hl1 : ((List.range k).map fun j => (lfc H.dr.lf m hz2).four A (cs R A j) (cs R A (j + 1)))[k - 1]? = some ((lfc H.dr.lf m hz2).four A (cs R A (k - 1)) (cs R A k)) := by
            rw [map_at (by omega)]
            rw [show k - 1 + 1 = k by omega]
          have hl2 : ((List.range n).map fun j => (pfc H.pf m hz1).now (cs R A (j + 1)))[k - 1]? = some ((pfc H.pf m hz1).now (cs R A k)) := by
            rw [map_at (by omega)]
            rw [show k - 1 + 1 = k by omega]
          have hnow : nst 2 ((lfc H.dr.lf m hz2).now (cs R A k)) = true := nst_pr H.dr.lf hz2 (x := ((cs R A k).p, (cs R A k).q)) (by show (cs R A k).p.len ≤ _; omega) (by show (cs R A k).q.len ≤ _; omega)
          refine Bo.t (Wb.cons (Ws.set (We.idx (We.idx (We.idx (We.call ?_))))))
          repeat infer_instance
          refine hch.w (by show 1 + 5 ≤ 11; omega) ?_
          refine We.lit (Ix.of 0 rfl rfl rfl ?_)
          refine We.neg (We.lit ⟨_, rfl, Ix.neg (k - 1) rfl (by simp; omega) (by simp; omega) hl1 ?_⟩)
          refine We.lit (Ix.of 3 rfl rfl rfl ?_)
          refine Wb.cons (Ws.ife (We.or (We.bin (We.var rfl (We.idx (We.var rfl (We.bin (We.var rfl (We.lit (Bn.sub ?_))))))))))
          refine Ix.of (k - 1) rfl (by omega) hl2 ?_
          refine Bn.of (ne_self (k := 2) (by omega) hnow) (Bo.f ?_)
          repeat infer_instance
          refine Ix.of 0 rfl rfl rfl ?_
          repeat infer_instance
          refine Ix.of 1 rfl rfl rfl ?_
          repeat infer_instance
          have hisu := (pfc H.pf m hz1).fisu H.po H.f208 H.f216 R (cs R A k).p (cs R A k).q (by omega) (by omega) (by omega)
          have hq00 := hpos.2.2.2.q0
          have e5 : (cs R A k).p * (cs R A k).p - R * ((cs R A k).q * (cs R A k).q) = C c := hc
          rw [e5, (lc_C hc0).1, _root_.decide_eq_true hq00] at hisu
          refine hisu.w (by show 2 + 5 ≤ 11; omega) ?_
          repeat infer_instance
          exact ⟨rfl, _, _, _, _, _, _, rfl, rfl⟩
        · have e4 : ((((pfc H.pf m hz1).encs (cs R A k).Q.c).length : Int) == 1) = false := by
            rw [Fc.encs_len]
            unfold Poly.len at hQ1
            exact beq_eq_false_iff_ne.mpr (by omega)
          rw [e4]
          refine Bo.f ?_
          repeat infer_instance
          exact ⟨rfl, _, _, _, _, _, _, rfl, rfl⟩
  · rintro ρ S' ⟨v8, v9, v10, v11, v12, v13, rfl, rfl⟩
    repeat infer_instance
    exact Rt.lt rfl ⟨rfl, List.take_length⟩
end RG
set_option Elab.async false
set_option linter.all false
set_option maxRecDepth 100000
/-! Law k97: the law. -/
namespace RG
open PySem Lean.Grind Poly
local macro_rules | `(tactic| infer_instance) => `(tactic| first
  | refine Wb.cons ?_ | refine Wb.nil ?_ | refine Ws.set ?_ | refine Ws.ret ?_ | refine Ws.ife ?_ | refine Ws.par ?_ | refine Ws.unp ?_ | refine Ws.pass ?_ | refine Ws.cont ?_ | refine Ws.retN ?_ | refine Ws.expr ?_
  | refine We.var rfl ?_ | refine We.lit ?_ | refine We.bin ?_ | refine We.idx ?_ | refine We.call ?_ | refine We.tup ?_ | refine We.bi ?_ | refine We.and ?_ | refine We.or ?_ | refine We.not ?_ | refine We.ite ?_ | refine We.neg ?_ | refine We.isN ?_ | refine We.own ?_ | refine We.frz ?_
  | refine Wes.cons ?_ | refine Wes.nil ?_ | refine Wl.disp ?_ | refine Wl.cat ?_ | refine Wl.rep ?_ | refine Wi.rng ?_ | refine Wi.seq ?_
  | refine Bn.add ?_ | refine Bn.sub ?_ | refine Bn.lt ?_ | refine Bn.le ?_ | refine Bn.gt ?_ | refine Bn.ge ?_ | refine Bn.eqI ?_ | refine Bn.neI ?_ | refine Bo.t ?_ | refine Bo.f ?_ | refine Bo.mk ?_ ?_ | refine ⟨_, rfl, ?_⟩)
section
variable {α : Type} [Field α] [DecidableEq α]
theorem rt_exists {R : Poly α} {h : Nat} (h2 : (1 : α) + 1 ≠ 0) (hp : 0 < h) (hl : R.len = 2 * h + 1) (hc : R.lc = 1) : ∃ A, IsRt R A h := by
  have key : ∀ k, k ≤ h → ∃ os, RtI R h (h - k) os := by
    intro k
    induction k with
    | zero => exact fun _ => ⟨_, rtI_0 hl hc⟩
    | succ k ih =>
      intro hk
      obtain ⟨os, i⟩ := ih (by omega)
      have i' : RtI R h ((h - (k + 1)) + 1) os := by rwa [show (h - (k + 1)) + 1 = h - k by omega]
      exact ⟨_, i'.step h2 (by omega) rfl⟩
  obtain ⟨os, i⟩ := key h (Nat.le_refl _)
  rw [Nat.sub_self] at i
  exact ⟨_, i.fin hp⟩
end
theorem rd_of {m h : Nat} [hp : PrimeP m] (h3 : 3 ≤ m) (mz : m ≤ 1000) (hh : 0 < h) (hz : h ≤ 10) {l : List Nat} (hl : l.length = 2 * h) (ns : ∀ N : Poly (Fin m), rad m l = N * N → N.len ≤ 1) : ∃ A, Rd m h (rad m l) A := by
  have h2 : (1 : Fin m) + 1 ≠ 0 := fun z => by
    have := congrArg Fin.val z
    rw [Fin.val_add, fin_one, fin_zero, Nat.mod_eq_of_lt (by omega)] at this
    omega
  have hlen : (rad m l).len = 2 * h + 1 := by rw [rad_len, hl]
  obtain ⟨A, hA⟩ := rt_exists h2 hh hlen (rad_lc l)
  refine ⟨A, h3, mz, hz, hlen, rad_lc l, fun n => cs_ok hA (fun N z => ?_) h2 n⟩
  have e : rad m l = N * N := by grind
  have h4 := ns N e
  have h5 := len_mul_le N N
  rw [← e] at h5
  omega
variable {P : Prog}
theorem cut63 {xs : List D} (h : xs.length ≤ 63) : cut xs none (some 63) = xs := by
  unfold cut sIx
  dsimp only
  rw [if_neg (by omega), List.drop_zero]
  exact List.take_of_length_le (by show xs.length ≤ min (Int.toNat 63) xs.length - 0; have : Int.toNat 63 = 63 := rfl; omega)
theorem state_w (h93 : P.fn 93 = some F93) {ns : List Int} (hn : ns.length ≤ 63) (S : Store) : Wc P 1 93 [.scr (ns.map D.int)] S (fun v S' => v = .ref S.length ∧ ∃ s, Vs s ∧ S' = S ++ [stc s]) (fun _ _ => False) := by
  refine Wc.of (k := 0) h93 rfl (by decide) ?_
  repeat infer_instance
  refine Ws.for_ (fun k ρ S' => ∃ a b v3, b < gM ∧ ρ = [some (.scr (ns.map D.int)), some (.int ((a : Nat) : Int)), some (.int ((b : Nat) : Int)), v3] ∧ S' = S) (ns.map D.int) none ?_ ?_ ?_
  · refine Wi.seq (We.slc_h (We.var rfl (We.lit ⟨63, _, rfl, rfl, ns.map D.int, ?_, rfl, rfl, 0, 1, none, by decide, rfl, rfl⟩)))
    show some (cut (ns.map D.int) none (some 63)) = _
    rw [cut63 (by rw [List.length_map]; exact hn)]
  · rintro k x ρ S' hx ⟨a, b, v3, hb, rfl, rfl⟩
    rw [List.getElem?_map] at hx
    obtain ⟨z, rfl⟩ : ∃ z, x = D.int z := by
      cases e : ns[k]? with
      | none => rw [e] at hx; cases hx
      | some z => rw [e] at hx; exact ⟨z, by cases hx; rfl⟩
    have e1 : ((a : Int) * 1000003 + (z.natAbs : Int)) = ((a * 1000003 + z.natAbs : Nat) : Int) := by omega
    have e2 : ((b : Int) * 48271 + z).fmod 2147483647 = ((((b : Int) * 48271 + z).fmod 2147483647).toNat : Int) := by
      have := Int.fmod_nonneg_of_pos ((b : Int) * 48271 + z) (b := 2147483647) (by decide)
      omega
    have e3 := Int.fmod_lt_of_pos ((b : Int) * 48271 + z) (b := 2147483647) (by decide)
    refine ⟨_, rfl, ?_⟩
    repeat infer_instance
    refine Bn.mul (by unfold bitsOk; simp) ?_
    repeat infer_instance
    refine Bn.mul (by unfold bitsOk; simp) ?_
    repeat infer_instance
    rw [e1, e2]
    refine ⟨rfl, _, _, _, ?_, rfl, rfl⟩
    show _ < 2147483647
    omega
  · rintro ρ S' ⟨a, b, v3, hb, rfl, rfl⟩
    have last : ∀ b' : Nat, b' < gM → b' ≠ 1973665155 → Rp (retv true S'.length (.ref S'.length) (S' ++ [.lst [.int (a : Int), .int (b' : Int)]])) (fun v S2 => v = .ref S'.length ∧ ∃ s, Vs s ∧ S2 = S' ++ [stc s]) (fun _ _ => False) := by
      intro b' h1 h2
      unfold retv
      have hr : (D.ref S'.length).lt S'.length = false := by rw [D.lt]; simp
      rw [if_neg (by rw [hr]; intro z; cases z), if_pos rfl]
      dsimp only
      rw [cell_at]
      dsimp only
      have hc : Cell.lt S'.length (.lst [.int (a : Int), .int (b' : Int)]) = true := by
        rw [Cell.lt, D.lts, D.lts, D.lts]; rfl
      rw [if_pos hc, take_cell]
      exact ⟨rfl, (a, b'), ⟨h1, h2⟩, rfl⟩
    refine Wb.cons (Ws.ret (We.own (Wl.disp (Wes.cons (We.var rfl (Wes.cons (We.ite (We.bin (We.var rfl (We.lit (Bn.neI ?_)))))))))))
    refine Bo.mk (fun z => We.var rfl (Wes.nil ?_)) (fun z => We.lit (Wes.nil ?_))
    · refine last b hb fun e => ?_
      subst e
      cases z
    · exact last 7 (by decide) (by decide)
/-- one drawn radicand: all that is asked of it -/
theorem turn_w (H : K97 P) (m h : Nat) [hp : PrimeP m] (h3 : 3 ≤ m) (mz : m ≤ 1000) (hh : 0 < h) (hz : h ≤ 10) (W : Wit m (2 * h)) {k : Nat} (hk : 8 ≤ k) {S : Store} {i : Nat} {s : Nat × Nat} (hS : S[i]? = some (stc s)) (hs : Vs s) {Q : D → Store → Prop} {X : Exc → Store → Prop}
    (q : ∀ R A s', Rd m h R A → Vs s' → Q ((lfc H.dr.lf m (by omega)).po R) (S.set i (stc s'))) : Wc P k 212 [.ref i, .int (m : Int), .int ((2 * h : Nat) : Int)] S Q X := by
  refine ((drawn_w H.dr H.f212 m (by omega) (by omega) (by omega) W hS hs).mono (fun v S' hv => ?_) fun _ _ h => h.elim).up hk
  obtain ⟨l, s', rfl, hl, ns, hv, rfl⟩ := hv
  obtain ⟨A, r⟩ := rd_of h3 mz hh hz hl ns
  exact q _ A s' r hv
/-- what stands in the law's loop behind the draw of the prime -/
def k97rest : Ss := (.cons (.set 4 (.call 212 (.cons (.var 1) (.cons (.var 3) (.cons (.idx (.frz (.disp (.cons (.lit (.int 2)) (.cons (.lit (.int 4)) (.cons (.lit (.int 4)) .nil))))) (.var 2)) .nil)))))
  (.cons (.ife (.or (.not (.call 228 (.cons (.var 1) (.cons (.var 3) (.cons (.var 4) .nil))))) (.not (.call 377 (.cons (.var 3) (.cons (.var 4) (.cons (.bin .add (.lit (.int 1)) (.call 94 (.cons (.var 1) (.cons (.lit (.int 8)) .nil)))) .nil)))))) (.cons (.ret (.lit (.bl false)))
  .nil) .nil)
  .nil))
theorem rest_w (H : K97 P) (m h : Nat) [hp : PrimeP m] (h3 : 3 ≤ m) (mz : m ≤ 1000) (hh : 0 < h) (hz : h ≤ 10) (W : Wit m (2 * h)) {s : Nat × Nat} (hs : Vs s) {j : Nat} (hj : ([D.int 2, .int 4, .int 4] : List D)[j]? = some (.int ((2 * h : Nat) : Int))) {sc : D} {v4 : Option D} {N : Env → Store → Prop} {T : D → Store → Prop} {C : Env → Store → Prop} {X : Exc → Env → Store → Prop}
    (q : ∀ s' v4, Vs s' → N [some sc, some (.ref 0), some (.int (j : Int)), some (.int (m : Int)), v4] [stc s']) : Wb P 13 k97rest [some sc, some (.ref 0), some (.int (j : Int)), some (.int (m : Int)), v4] [stc s] N T C X := by
  unfold k97rest
  repeat infer_instance
  refine Ix.of j rfl rfl hj ?_
  repeat infer_instance
  refine turn_w H m h h3 mz hh hz W (by omega) rfl hs fun R A s' r hv => ?_
  show Wb P 13 _ _ [stc s'] N T C X
  repeat infer_instance
  refine ((unit_holds H (by omega) (by omega) r rfl hv).mono (fun v S' hv => ?_) fun _ _ h => h.elim).up (by omega)
  obtain ⟨rfl, s2, hv2, rfl⟩ := hv
  repeat infer_instance
  refine (take_w H.dr.f94 (m := 8) (s := s2) rfl (by decide) (by decide) ?_).up (by omega)
  have hk := tk_lt (m := 8) (by decide) s2
  have hv3 := hv2.tk 8
  generalize (tk 8 s2).1 = k at hk ⊢
  generalize (tk 8 s2).2 = s3 at hv3 ⊢
  repeat infer_instance
  have e : (1 : Int) + (k : Int) = ((1 + k : Nat) : Int) := by omega
  rw [e]
  refine (states_hold H (by omega) (by omega) r (1 + k) (by omega)).w (by omega) ?_
  repeat infer_instance
  exact q s3 _ hv3
theorem law_w (H : K97 P) (h144 : P.fn 144 = some F144_17) {ns : List Int} (hn : ns.length ≤ 63) : Wc P 14 144 [.scr (ns.map D.int)] [] (fun v _ => v = .bl true) (fun _ _ => False) := by
  refine Wc.of (k := 13) h144 rfl (by decide) ?_
  repeat infer_instance
  refine ((state_w H.f93 hn []).mono (fun v S' hv => ?_) fun _ _ h => h.elim).up (by omega)
  obtain ⟨rfl, s0, hs0, rfl⟩ := hv
  have e0 : ([] : Store) ++ [stc s0] = [stc s0] := rfl
  rw [e0]
  repeat infer_instance
  refine Ws.for_ (fun j ρ S' => ∃ s v2 v3 v4, Vs s ∧ ρ = [some (.scr (ns.map D.int)), some (.ref 0), v2, v3, v4] ∧ S' = [stc s]) ((List.range 3).map fun (j : Nat) => D.int (j : Int)) none ?_ ?_ ?_
  · repeat infer_instance
    exact ⟨_, _, rfl, rfl, rfl, rng_up0 (b := 3), rfl, s0, _, _, _, hs0, rfl, rfl⟩
  · rintro j x ρ S' hx ⟨s, v2, v3, v4, hs, rfl, rfl⟩
    obtain ⟨hj, rfl⟩ := range_get hx
    refine ⟨_, rfl, ?_⟩
    repeat infer_instance
    refine (take_w H.dr.f94 (m := 4) (s := s) rfl (by decide) (by decide) ?_).up (by omega)
    have hk := tk_lt (m := 4) (by decide) s
    have hv := hs.tk 4
    generalize (tk 4 s).1 = k at hk ⊢
    generalize (tk 4 s).2 = s2 at hv ⊢
    have fin : ∀ (m : Nat) [PrimeP m], 3 ≤ m → m ≤ 1000 → Wit m 2 → Wit m 4 → Wb P 13 k97rest [some (.scr (ns.map D.int)), some (.ref 0), some (.int (j : Int)), some (.int (m : Int)), v4] [stc s2]
        (fun ρ S' => Guard.ok none S' = true ∧ ∃ s v2 v3 v4, Vs s ∧ ρ = [some (.scr (ns.map D.int)), some (.ref 0), v2, v3, v4] ∧ S' = [stc s]) (fun v S' => Rp (retv false (List.length (α := Cell) []) v S') (fun v _ => v = .bl true) fun _ _ => False)
        (fun ρ S' => Guard.ok none S' = true ∧ ∃ s v2 v3 v4, Vs s ∧ ρ = [some (.scr (ns.map D.int)), some (.ref 0), v2, v3, v4] ∧ S' = [stc s]) (fun x _ S' => x.arg.lt 0 = true ∧ False) := by
      intro m _ h3 mz w2 w4
      have done : ∀ s' v4, Vs s' → Guard.ok none [stc s'] = true ∧ ∃ s v2 v3 v4', Vs s ∧ [some (D.scr (ns.map D.int)), some (.ref 0), some (.int (j : Int)), some (.int (m : Int)), v4] = [some (.scr (ns.map D.int)), some (.ref 0), v2, v3, v4'] ∧ [stc s'] = [stc s] := fun s' v4 h => ⟨rfl, s', _, _, _, h, rfl, rfl⟩
      have hj3 : j = 0 ∨ j = 1 ∨ j = 2 := by omega
      rcases hj3 with rfl | rfl | rfl
      · exact rest_w H m 1 h3 mz (by decide) (by decide) w2 hv rfl done
      · exact rest_w H m 2 h3 mz (by decide) (by decide) w4 hv rfl done
      · exact rest_w H m 2 h3 mz (by decide) (by decide) w4 hv rfl done
    have hk4 : k = 0 ∨ k = 1 ∨ k = 2 ∨ k = 3 := by omega
    rcases hk4 with rfl | rfl | rfl | rfl
    · exact Ix.of 0 rfl rfl rfl (fin 3 (by decide) (by decide) wit_3_2 wit_3_4)
    · exact Ix.of 1 rfl rfl rfl (fin 5 (by decide) (by decide) wit_5_2 wit_5_4)
    · exact Ix.of 2 rfl rfl rfl (fin 7 (by decide) (by decide) wit_7_2 wit_7_4)
    · exact Ix.of 3 rfl rfl rfl (fin 11 (by decide) (by decide) wit_11_2 wit_11_4)
  · rintro ρ S' ⟨s, v2, v3, v4, hs, rfl, rfl⟩
    repeat infer_instance
    refine turn_w H 3 3 (by decide) (by decide) (by decide) (by decide) wit_3_6 (by omega) (s := s) rfl hs fun R A s' r hv => ?_
    repeat infer_instance
    refine (states_hold H (by decide) (by decide) r 6 (by omega)).w (by omega) ?_
    exact Rt.lt rfl rfl
theorem law_k97 (H : K97 P) (h144 : P.fn 144 = some F144_17) : ∀ ns : List Int, ns.length ≤ 63 → (∀ z ∈ ns, Builtin.Int.intBits z ≤ 1048576) → ∃ S, callF P (13 + 1) 144 [.scr (ns.map D.int)] [] = some (.ok (.bl true) S) := by
  intro ns hn _
  have := (law_w H h144 hn).1 0
  rw [Nat.zero_add] at this
  unfold Rp at this
  split at this
  · rename_i a S e
    subst this
    exact ⟨S, e⟩
  · exact this.elim
  · exact this.elim
end RG
set_option maxRecDepth 100000
set_option linter.all false
set_option Elab.async false
/-! The text of the law as rows: printed by gen.py. -/
namespace Lk97
open PySem L2 RG
def top (i : Nat) : Stmt := PySem.Challenge.pw_rootgraph_k97_whole_one_root_and_the_cha.main.body.getD i (.Pass ⟨0, 0, 0, 0⟩)
def r0 : FnRow := ⟨top 0, "_wall", "_wall", 1, ["k"], B0, false⟩
def r1 : FnRow := ⟨top 5, "trim", "trim", 2, ["field", "coefficients", "size"], B1, false⟩
def r2 : FnRow := ⟨top 6, "degree", "degree", 1, ["p"], B2, false⟩
def r3 : FnRow := ⟨top 7, "last", "last", 1, ["p"], B3, false⟩
def r5 : FnRow := ⟨top 8, "padd", "padd", 3, ["field", "p", "q", "out", "at", "e"], B5, false⟩
def r6 : FnRow := ⟨top 9, "pneg", "pneg", 2, ["field", "p", "e"], B6, false⟩
def r7 : FnRow := ⟨top 10, "psub", "psub", 3, ["field", "p", "q"], B7, false⟩
def r8 : FnRow := ⟨top 11, "pscale", "pscale", 3, ["field", "p", "e", "c"], B8, false⟩
def r9 : FnRow := ⟨top 12, "pmul", "pmul", 3, ["field", "p", "q", "out", "at", "e", "k", "c"], B9, false⟩
def r11 : FnRow := ⟨top 13, "pdivide", "pdivide", 3, ["field", "p", "q", "size", "rest", "monic", "inverse", "quotient", "k", "factor", "at"], B11, false⟩
def r12 : FnRow := ⟨top 14, "pquotient", "pquotient", 3, ["field", "p", "q", "quotient", "rest"], B12, false⟩
def r176 : FnRow := ⟨inClass (top 16) 0, "__init__", "PrimeField.__init__", 2, ["self", "prime"], B176, false⟩
def r177 : FnRow := ⟨inClass (top 16) 1, "level", "PrimeField.level", 1, ["self"], B177_1, false⟩
def r178 : FnRow := ⟨inClass (top 16) 2, "zero", "PrimeField.zero", 1, ["self"], B178, false⟩
def r179 : FnRow := ⟨inClass (top 16) 3, "one", "PrimeField.one", 1, ["self"], B179, false⟩
def r180 : FnRow := ⟨inClass (top 16) 4, "is_zero", "PrimeField.is_zero", 2, ["self", "a"], B180, false⟩
def r181 : FnRow := ⟨inClass (top 16) 5, "add", "PrimeField.add", 3, ["self", "a", "b"], B181, false⟩
def r182 : FnRow := ⟨inClass (top 16) 6, "subtract", "PrimeField.subtract", 3, ["self", "a", "b"], B182, false⟩
def r183 : FnRow := ⟨inClass (top 16) 7, "negative", "PrimeField.negative", 2, ["self", "a"], B183, false⟩
def r184 : FnRow := ⟨inClass (top 16) 8, "multiply", "PrimeField.multiply", 3, ["self", "a", "b"], B184, false⟩
def r185 : FnRow := ⟨inClass (top 16) 9, "inverse", "PrimeField.inverse", 2, ["self", "a"], B185, false⟩
def r186 : FnRow := ⟨inClass (top 16) 10, "divide", "PrimeField.divide", 3, ["self", "a", "b"], B186, false⟩
def r187 : FnRow := ⟨inClass (top 16) 11, "power", "PrimeField.power", 3, ["self", "a", "k", "out"], B187, false⟩
def r188 : FnRow := ⟨inClass (top 16) 12, "rational", "PrimeField.rational", 2, ["self", "q"], B188, false⟩
def r189 : FnRow := ⟨inClass (top 16) 13, "is_element", "PrimeField.is_element", 2, ["self", "value"], B189_2, false⟩
def r190 : FnRow := ⟨inClass (top 16) 14, "roots_of", "PrimeField.roots_of", 2, ["self", "a"], B190_3, false⟩
def r202 : FnRow := ⟨top 18, "root_part", "root_part", 2, ["field", "R", "half", "out", "two", "k", "left"], B202, false⟩
def r203 : FnRow := ⟨top 19, "first_state", "first_state", 1, ["field"], B203, false⟩
def r204 : FnRow := ⟨top 20, "next_state", "next_state", 4, ["field", "R", "part", "state", "P", "Q", "a", "after"], B204, false⟩
def r205 : FnRow := ⟨top 21, "next_pairs", "next_pairs", 4, ["field", "a", "now", "before", "one", "two"], B205, false⟩
def r206 : FnRow := ⟨top 22, "chain_states", "chain_states", 3, ["field", "R", "count", "part", "state", "out", "_", "a", "after"], B206, false⟩
def r207 : FnRow := ⟨top 23, "chain_pairs", "chain_pairs", 3, ["field", "R", "count", "now", "before", "out", "_", "a"], B207, false⟩
def r215 : FnRow := ⟨top 24, "unit_to", "unit_to", 3, ["field", "R", "most", "part", "state", "now", "before", "a"], B215, false⟩
def r208 : FnRow := ⟨top 25, "root_norm", "root_norm", 4, ["field", "R", "p", "q"], B208, false⟩
def r216 : FnRow := ⟨top 26, "is_unit", "is_unit", 4, ["field", "R", "p", "q"], B216, false⟩
def r221 : FnRow := ⟨top 27, "unit_product", "unit_product", 4, ["field", "R", "one", "two", "p"], B221, false⟩
def r222 : FnRow := ⟨top 28, "unit_power", "unit_power", 4, ["field", "R", "pair", "k", "out", "_"], B222, false⟩
def r93 : FnRow := ⟨top 30, "_law_state", "_law_state", 1, ["script", "seed", "total", "cell"], B93, true⟩
def r94 : FnRow := ⟨top 31, "_law_take", "_law_take", 2, ["state", "m", "value"], B94, false⟩
def r95 : FnRow := ⟨top 32, "_law_odd", "_law_odd", 1, ["value", "item"], B95, false⟩
def r99 : FnRow := ⟨top 33, "_law_says", "_law_says", 2, ["value", "due"], B99, false⟩
def r96 : FnRow := ⟨top 34, "_law_honest", "_law_honest", 1, ["value"], B96, false⟩
def r97 : FnRow := ⟨top 35, "_law_is_whole", "_law_is_whole", 1, ["value"], B97, false⟩
def r98 : FnRow := ⟨top 36, "_law_same", "_law_same", 2, ["one", "two", "k"], B98, false⟩
def r100 : FnRow := ⟨top 37, "_law_frac", "_law_frac", 2, ["n", "d", "a", "b"], B100, false⟩
def r101 : FnRow := ⟨top 38, "_law_plus", "_law_plus", 2, ["x", "y"], B101, false⟩
def r102 : FnRow := ⟨top 39, "_law_times", "_law_times", 2, ["x", "y"], B102, false⟩
def r103 : FnRow := ⟨top 40, "_law_over", "_law_over", 2, ["x", "y"], B103, false⟩
def r209 : FnRow := ⟨top 41, "_law_chain", "_law_chain", 3, ["m", "R", "count", "A", "P", "Q", "now", "before", "found", "turn", "a", "one"], B209, false⟩
def r105 : FnRow := ⟨top 42, "_law_fadd", "_law_fadd", 3, ["m", "x", "y"], B105, false⟩
def r106 : FnRow := ⟨top 43, "_law_fmul", "_law_fmul", 3, ["m", "x", "y"], B106, false⟩
def r107 : FnRow := ⟨top 44, "_law_fneg", "_law_fneg", 2, ["m", "x"], B107, false⟩
def r210 : FnRow := ⟨top 45, "_law_fone", "_law_fone", 1, ["m"], B210, false⟩
def r108 : FnRow := ⟨top 46, "_law_fnone", "_law_fnone", 1, ["m"], B108, false⟩
def r109 : FnRow := ⟨top 47, "_law_fint", "_law_fint", 2, ["m", "k"], B109, false⟩
def r110 : FnRow := ⟨top 48, "_law_finv", "_law_finv", 2, ["m", "x", "y"], B110, false⟩
def r111 : FnRow := ⟨top 49, "_law_pcut", "_law_pcut", 2, ["m", "f", "last_v"], B111, false⟩
def r112 : FnRow := ⟨top 50, "_law_padd", "_law_padd", 3, ["m", "f", "g", "size", "one", "two", "k"], B112, true⟩
def r113 : FnRow := ⟨top 51, "_law_pneg", "_law_pneg", 2, ["m", "f", "x"], B113, false⟩
def r114 : FnRow := ⟨top 52, "_law_psub", "_law_psub", 3, ["m", "f", "g"], B114, false⟩
def r115 : FnRow := ⟨top 53, "_law_pmul", "_law_pmul", 3, ["m", "f", "g", "found", "i", "j"], B115, false⟩
def r116 : FnRow := ⟨top 54, "_law_pscale", "_law_pscale", 3, ["m", "f", "c", "x"], B116, false⟩
def r117 : FnRow := ⟨top 55, "_law_pdivide", "_law_pdivide", 3, ["m", "f", "g", "rest", "top", "found", "k", "c", "j"], B117, false⟩
def r118 : FnRow := ⟨top 56, "_law_pmonic", "_law_pmonic", 2, ["m", "f"], B118, false⟩
def r119 : FnRow := ⟨top 57, "_law_pgcd", "_law_pgcd", 3, ["m", "f", "g"], B119, false⟩
def r120 : FnRow := ⟨top 58, "_law_pslope", "_law_pslope", 2, ["m", "f", "k"], B120, false⟩
def r121 : FnRow := ⟨top 59, "_law_squarefree", "_law_squarefree", 2, ["m", "f"], B121, false⟩
def r211 : FnRow := ⟨top 60, "_law_root_part", "_law_root_part", 2, ["m", "R", "half", "found", "turn", "k", "left", "c"], B211, false⟩
def r224 : FnRow := ⟨top 61, "_law_least_unit", "_law_least_unit", 3, ["m", "R", "most", "A", "P", "Q", "now", "before", "turn", "a", "one"], B224, false⟩
def r212 : FnRow := ⟨top 62, "_law_drawn", "_law_drawn", 3, ["state", "m", "degree_v", "R", "k"], B212_1, false⟩
def r228 : FnRow := ⟨top 63, "_law_unit_holds", "_law_unit_holds", 3, ["state", "m", "R", "field", "unit", "norm", "k", "p", "q", "power", "turn", "back"], B228_3, false⟩
def r377 : FnRow := ⟨top 64, "_law_states_hold", "_law_states_hold", 3, ["m", "R", "count", "field", "half", "states", "pairs", "A", "n", "P", "Q", "a", "rest", "own"], B377, false⟩
def r144 : FnRow := ⟨top 65, "law", "law", 1, ["script", "state", "turn", "m", "R"], B144_17, false⟩
def rows : List (Nat × FnRow) := [(0, r0), (1, r1), (2, r2), (3, r3), (5, r5), (6, r6), (7, r7), (8, r8), (9, r9), (11, r11), (12, r12), (176, r176), (177, r177), (178, r178), (179, r179), (180, r180), (181, r181), (182, r182), (183, r183), (184, r184), (185, r185), (186, r186), (187, r187), (188, r188), (189, r189), (190, r190), (202, r202), (203, r203), (204, r204), (205, r205), (206, r206), (207, r207), (215, r215), (208, r208), (216, r216), (221, r221), (222, r222), (93, r93), (94, r94), (95, r95), (99, r99), (96, r96), (97, r97), (98, r98), (100, r100), (101, r101), (102, r102), (103, r103), (209, r209), (105, r105), (106, r106), (107, r107), (210, r210), (108, r108), (109, r109), (110, r110), (111, r111), (112, r112), (113, r113), (114, r114), (115, r115), (116, r116), (117, r117), (118, r118), (119, r119), (120, r120), (121, r121), (211, r211), (224, r224), (212, r212), (228, r228), (377, r377), (144, r144)]
def gk : List (Str × GK) := [(("len" : Str), GK.no), (("tuple" : Str), GK.no), (("list" : Str), GK.no), (("enumerate" : Str), GK.no), (("trim" : Str), GK.fn 1), (("padd" : Str), GK.fn 5), (("pneg" : Str), GK.fn 6), (("pscale" : Str), GK.fn 8), (("last" : Str), GK.fn 3), (("range" : Str), GK.no), (("pdivide" : Str), GK.fn 11), (("_wall" : Str), GK.fn 0), (("degree" : Str), GK.fn 2), (("psub" : Str), GK.fn 7), (("pmul" : Str), GK.fn 9), (("pquotient" : Str), GK.fn 12), (("first_state" : Str), GK.fn 203), (("root_part" : Str), GK.fn 202), (("next_state" : Str), GK.fn 204), (("chain_states" : Str), GK.fn 206), (("next_pairs" : Str), GK.fn 205), (("root_norm" : Str), GK.fn 208), (("unit_product" : Str), GK.fn 221), (("abs" : Str), GK.no), (("int" : Str), GK.no), (("_law_odd" : Str), GK.fn 95), (("isinstance" : Str), GK.no), (("bool" : Str), GK.no), (("all" : Str), GK.no), (("_law_same" : Str), GK.fn 98), (("str" : Str), GK.no), (("_law_is_whole" : Str), GK.fn 97), (("_law_frac" : Str), GK.fn 100), (("_law_fone" : Str), GK.fn 210), (("_law_root_part" : Str), GK.fn 211), (("_law_pdivide" : Str), GK.fn 117), (("_law_padd" : Str), GK.fn 112), (("_law_pmul" : Str), GK.fn 115), (("_law_psub" : Str), GK.fn 114), (("_law_plus" : Str), GK.fn 101), (("_law_times" : Str), GK.fn 102), (("_law_over" : Str), GK.fn 103), (("_law_fnone" : Str), GK.fn 108), (("max" : Str), GK.no), (("_law_pcut" : Str), GK.fn 111), (("_law_fadd" : Str), GK.fn 105), (("_law_fneg" : Str), GK.fn 107), (("_law_pneg" : Str), GK.fn 113), (("_law_fmul" : Str), GK.fn 106), (("_law_finv" : Str), GK.fn 110), (("_law_pscale" : Str), GK.fn 116), (("_law_pmonic" : Str), GK.fn 118), (("_law_fint" : Str), GK.fn 109), (("_law_pgcd" : Str), GK.fn 119), (("_law_pslope" : Str), GK.fn 120), (("_law_take" : Str), GK.fn 94), (("_law_squarefree" : Str), GK.fn 121), (("_law_least_unit" : Str), GK.fn 224), (("PrimeField" : Str), GK.cls 5), (("_law_honest" : Str), GK.fn 96), (("unit_to" : Str), GK.fn 215), (("unit_power" : Str), GK.fn 222), (("_law_says" : Str), GK.fn 99), (("is_unit" : Str), GK.fn 216), (("chain_pairs" : Str), GK.fn 207), (("_law_chain" : Str), GK.fn 209), (("_law_state" : Str), GK.fn 93), (("_law_drawn" : Str), GK.fn 212), (("_law_states_hold" : Str), GK.fn 377), (("_law_unit_holds" : Str), GK.fn 228)]
def mt : List ((Nat × Nat) × Nat) := [((5, 23), 177), ((5, 5), 178), ((5, 3), 179), ((5, 0), 180), ((5, 1), 181), ((5, 7), 182), ((5, 2), 183), ((5, 4), 184), ((5, 6), 185), ((5, 19), 186), ((5, 18), 187), ((5, 8), 188), ((5, 9), 189), ((5, 29), 190)]
def it : List (Nat × Nat) := [(5, 176)]
def fl : List (Nat × Nat) := [(5, 28)]
abbrev P : Prog := progOf rows mt it fl
theorem p0 : P.fn 0 = some F0 := rfl
theorem p1 : P.fn 1 = some F1 := rfl
theorem p2 : P.fn 2 = some F2 := rfl
theorem p3 : P.fn 3 = some F3 := rfl
theorem p5 : P.fn 5 = some F5 := rfl
theorem p6 : P.fn 6 = some F6 := rfl
theorem p7 : P.fn 7 = some F7 := rfl
theorem p8 : P.fn 8 = some F8 := rfl
theorem p9 : P.fn 9 = some F9 := rfl
theorem p11 : P.fn 11 = some F11 := rfl
theorem p12 : P.fn 12 = some F12 := rfl
theorem p176 : P.fn 176 = some F176 := rfl
theorem p177 : P.fn 177 = some F177_1 := rfl
theorem p178 : P.fn 178 = some F178 := rfl
theorem p179 : P.fn 179 = some F179 := rfl
theorem p180 : P.fn 180 = some F180 := rfl
theorem p181 : P.fn 181 = some F181 := rfl
theorem p182 : P.fn 182 = some F182 := rfl
theorem p183 : P.fn 183 = some F183 := rfl
theorem p184 : P.fn 184 = some F184 := rfl
theorem p185 : P.fn 185 = some F185 := rfl
theorem p186 : P.fn 186 = some F186 := rfl
theorem p187 : P.fn 187 = some F187 := rfl
theorem p188 : P.fn 188 = some F188 := rfl
theorem p189 : P.fn 189 = some F189_2 := rfl
theorem p190 : P.fn 190 = some F190_3 := rfl
theorem p202 : P.fn 202 = some F202 := rfl
theorem p203 : P.fn 203 = some F203 := rfl
theorem p204 : P.fn 204 = some F204 := rfl
theorem p205 : P.fn 205 = some F205 := rfl
theorem p206 : P.fn 206 = some F206 := rfl
theorem p207 : P.fn 207 = some F207 := rfl
theorem p215 : P.fn 215 = some F215 := rfl
theorem p208 : P.fn 208 = some F208 := rfl
theorem p216 : P.fn 216 = some F216 := rfl
theorem p221 : P.fn 221 = some F221 := rfl
theorem p222 : P.fn 222 = some F222 := rfl
theorem p93 : P.fn 93 = some F93 := rfl
theorem p94 : P.fn 94 = some F94 := rfl
theorem p95 : P.fn 95 = some F95 := rfl
theorem p99 : P.fn 99 = some F99 := rfl
theorem p96 : P.fn 96 = some F96 := rfl
theorem p97 : P.fn 97 = some F97 := rfl
theorem p98 : P.fn 98 = some F98 := rfl
theorem p100 : P.fn 100 = some F100 := rfl
theorem p101 : P.fn 101 = some F101 := rfl
theorem p102 : P.fn 102 = some F102 := rfl
theorem p103 : P.fn 103 = some F103 := rfl
theorem p209 : P.fn 209 = some F209 := rfl
theorem p105 : P.fn 105 = some F105 := rfl
theorem p106 : P.fn 106 = some F106 := rfl
theorem p107 : P.fn 107 = some F107 := rfl
theorem p210 : P.fn 210 = some F210 := rfl
theorem p108 : P.fn 108 = some F108 := rfl
theorem p109 : P.fn 109 = some F109 := rfl
theorem p110 : P.fn 110 = some F110 := rfl
theorem p111 : P.fn 111 = some F111 := rfl
theorem p112 : P.fn 112 = some F112 := rfl
theorem p113 : P.fn 113 = some F113 := rfl
theorem p114 : P.fn 114 = some F114 := rfl
theorem p115 : P.fn 115 = some F115 := rfl
theorem p116 : P.fn 116 = some F116 := rfl
theorem p117 : P.fn 117 = some F117 := rfl
theorem p118 : P.fn 118 = some F118 := rfl
theorem p119 : P.fn 119 = some F119 := rfl
theorem p120 : P.fn 120 = some F120 := rfl
theorem p121 : P.fn 121 = some F121 := rfl
theorem p211 : P.fn 211 = some F211 := rfl
theorem p224 : P.fn 224 = some F224 := rfl
theorem p212 : P.fn 212 = some F212_1 := rfl
theorem p228 : P.fn 228 = some F228_3 := rfl
theorem p377 : P.fn 377 = some F377 := rfl
theorem p144 : P.fn 144 = some F144_17 := rfl
theorem c0 : rowB gk atts r0 = true := by decide +kernel
theorem c1 : rowB gk atts r1 = true := by decide +kernel
theorem c2 : rowB gk atts r2 = true := by decide +kernel
theorem c3 : rowB gk atts r3 = true := by decide +kernel
theorem c5 : rowB gk atts r5 = true := by decide +kernel
theorem c6 : rowB gk atts r6 = true := by decide +kernel
theorem c7 : rowB gk atts r7 = true := by decide +kernel
theorem c8 : rowB gk atts r8 = true := by decide +kernel
theorem c9 : rowB gk atts r9 = true := by decide +kernel
theorem c11 : rowB gk atts r11 = true := by decide +kernel
theorem c12 : rowB gk atts r12 = true := by decide +kernel
theorem c176 : rowB gk atts r176 = true := by decide +kernel
theorem c177 : rowB gk atts r177 = true := by decide +kernel
theorem c178 : rowB gk atts r178 = true := by decide +kernel
theorem c179 : rowB gk atts r179 = true := by decide +kernel
theorem c180 : rowB gk atts r180 = true := by decide +kernel
theorem c181 : rowB gk atts r181 = true := by decide +kernel
theorem c182 : rowB gk atts r182 = true := by decide +kernel
theorem c183 : rowB gk atts r183 = true := by decide +kernel
theorem c184 : rowB gk atts r184 = true := by decide +kernel
theorem c185 : rowB gk atts r185 = true := by decide +kernel
theorem c186 : rowB gk atts r186 = true := by decide +kernel
theorem c187 : rowB gk atts r187 = true := by decide +kernel
theorem c188 : rowB gk atts r188 = true := by decide +kernel
theorem c189 : rowB gk atts r189 = true := by decide +kernel
theorem c190 : rowB gk atts r190 = true := by decide +kernel
theorem c202 : rowB gk atts r202 = true := by decide +kernel
theorem c203 : rowB gk atts r203 = true := by decide +kernel
theorem c204 : rowB gk atts r204 = true := by decide +kernel
theorem c205 : rowB gk atts r205 = true := by decide +kernel
theorem c206 : rowB gk atts r206 = true := by decide +kernel
theorem c207 : rowB gk atts r207 = true := by decide +kernel
theorem c215 : rowB gk atts r215 = true := by decide +kernel
theorem c208 : rowB gk atts r208 = true := by decide +kernel
theorem c216 : rowB gk atts r216 = true := by decide +kernel
theorem c221 : rowB gk atts r221 = true := by decide +kernel
theorem c222 : rowB gk atts r222 = true := by decide +kernel
theorem c93 : rowB gk atts r93 = true := by decide +kernel
theorem c94 : rowB gk atts r94 = true := by decide +kernel
theorem c95 : rowB gk atts r95 = true := by decide +kernel
theorem c99 : rowB gk atts r99 = true := by decide +kernel
theorem c96 : rowB gk atts r96 = true := by decide +kernel
theorem c97 : rowB gk atts r97 = true := by decide +kernel
theorem c98 : rowB gk atts r98 = true := by decide +kernel
theorem c100 : rowB gk atts r100 = true := by decide +kernel
theorem c101 : rowB gk atts r101 = true := by decide +kernel
theorem c102 : rowB gk atts r102 = true := by decide +kernel
theorem c103 : rowB gk atts r103 = true := by decide +kernel
theorem c209 : rowB gk atts r209 = true := by decide +kernel
theorem c105 : rowB gk atts r105 = true := by decide +kernel
theorem c106 : rowB gk atts r106 = true := by decide +kernel
theorem c107 : rowB gk atts r107 = true := by decide +kernel
theorem c210 : rowB gk atts r210 = true := by decide +kernel
theorem c108 : rowB gk atts r108 = true := by decide +kernel
theorem c109 : rowB gk atts r109 = true := by decide +kernel
theorem c110 : rowB gk atts r110 = true := by decide +kernel
theorem c111 : rowB gk atts r111 = true := by decide +kernel
theorem c112 : rowB gk atts r112 = true := by decide +kernel
theorem c113 : rowB gk atts r113 = true := by decide +kernel
theorem c114 : rowB gk atts r114 = true := by decide +kernel
theorem c115 : rowB gk atts r115 = true := by decide +kernel
theorem c116 : rowB gk atts r116 = true := by decide +kernel
theorem c117 : rowB gk atts r117 = true := by decide +kernel
theorem c118 : rowB gk atts r118 = true := by decide +kernel
theorem c119 : rowB gk atts r119 = true := by decide +kernel
theorem c120 : rowB gk atts r120 = true := by decide +kernel
theorem c121 : rowB gk atts r121 = true := by decide +kernel
theorem c211 : rowB gk atts r211 = true := by decide +kernel
theorem c224 : rowB gk atts r224 = true := by decide +kernel
theorem c212 : rowB gk atts r212 = true := by decide +kernel
theorem c228 : rowB gk atts r228 = true := by decide +kernel
theorem c377 : rowB gk atts r377 = true := by decide +kernel
theorem c144 : rowB gk atts r144 = true := by decide +kernel
theorem d0 : BindsH r0 := fun _ _ _ _ _ _ us hl => match us, hl with | [_], _ => rfl
theorem d1 : BindsH r1 := fun _ _ _ _ _ _ us hl => match us, hl with | [_, _], _ => rfl
theorem d2 : BindsH r2 := fun _ _ _ _ _ _ us hl => match us, hl with | [_], _ => rfl
theorem d3 : BindsH r3 := fun _ _ _ _ _ _ us hl => match us, hl with | [_], _ => rfl
theorem d5 : BindsH r5 := fun _ _ _ _ _ _ us hl => match us, hl with | [_, _, _], _ => rfl
theorem d6 : BindsH r6 := fun _ _ _ _ _ _ us hl => match us, hl with | [_, _], _ => rfl
theorem d7 : BindsH r7 := fun _ _ _ _ _ _ us hl => match us, hl with | [_, _, _], _ => rfl
theorem d8 : BindsH r8 := fun _ _ _ _ _ _ us hl => match us, hl with | [_, _, _], _ => rfl
theorem d9 : BindsH r9 := fun _ _ _ _ _ _ us hl => match us, hl with | [_, _, _], _ => rfl
theorem d11 : BindsH r11 := fun _ _ _ _ _ _ us hl => match us, hl with | [_, _, _], _ => rfl
theorem d12 : BindsH r12 := fun _ _ _ _ _ _ us hl => match us, hl with | [_, _, _], _ => rfl
theorem d176 : BindsH r176 := fun _ _ _ _ _ _ us hl => match us, hl with | [_, _], _ => rfl
theorem d177 : BindsH r177 := fun _ _ _ _ _ _ us hl => match us, hl with | [_], _ => rfl
theorem d178 : BindsH r178 := fun _ _ _ _ _ _ us hl => match us, hl with | [_], _ => rfl
theorem d179 : BindsH r179 := fun _ _ _ _ _ _ us hl => match us, hl with | [_], _ => rfl
theorem d180 : BindsH r180 := fun _ _ _ _ _ _ us hl => match us, hl with | [_, _], _ => rfl
theorem d181 : BindsH r181 := fun _ _ _ _ _ _ us hl => match us, hl with | [_, _, _], _ => rfl
theorem d182 : BindsH r182 := fun _ _ _ _ _ _ us hl => match us, hl with | [_, _, _], _ => rfl
theorem d183 : BindsH r183 := fun _ _ _ _ _ _ us hl => match us, hl with | [_, _], _ => rfl
theorem d184 : BindsH r184 := fun _ _ _ _ _ _ us hl => match us, hl with | [_, _, _], _ => rfl
theorem d185 : BindsH r185 := fun _ _ _ _ _ _ us hl => match us, hl with | [_, _], _ => rfl
theorem d186 : BindsH r186 := fun _ _ _ _ _ _ us hl => match us, hl with | [_, _, _], _ => rfl
theorem d187 : BindsH r187 := fun _ _ _ _ _ _ us hl => match us, hl with | [_, _, _], _ => rfl
theorem d188 : BindsH r188 := fun _ _ _ _ _ _ us hl => match us, hl with | [_, _], _ => rfl
theorem d189 : BindsH r189 := fun _ _ _ _ _ _ us hl => match us, hl with | [_, _], _ => rfl
theorem d190 : BindsH r190 := fun _ _ _ _ _ _ us hl => match us, hl with | [_, _], _ => rfl
theorem d202 : BindsH r202 := fun _ _ _ _ _ _ us hl => match us, hl with | [_, _], _ => rfl
theorem d203 : BindsH r203 := fun _ _ _ _ _ _ us hl => match us, hl with | [_], _ => rfl
theorem d204 : BindsH r204 := fun _ _ _ _ _ _ us hl => match us, hl with | [_, _, _, _], _ => rfl
theorem d205 : BindsH r205 := fun _ _ _ _ _ _ us hl => match us, hl with | [_, _, _, _], _ => rfl
theorem d206 : BindsH r206 := fun _ _ _ _ _ _ us hl => match us, hl with | [_, _, _], _ => rfl
theorem d207 : BindsH r207 := fun _ _ _ _ _ _ us hl => match us, hl with | [_, _, _], _ => rfl
theorem d215 : BindsH r215 := fun _ _ _ _ _ _ us hl => match us, hl with | [_, _, _], _ => rfl
theorem d208 : BindsH r208 := fun _ _ _ _ _ _ us hl => match us, hl with | [_, _, _, _], _ => rfl
theorem d216 : BindsH r216 := fun _ _ _ _ _ _ us hl => match us, hl with | [_, _, _, _], _ => rfl
theorem d221 : BindsH r221 := fun _ _ _ _ _ _ us hl => match us, hl with | [_, _, _, _], _ => rfl
theorem d222 : BindsH r222 := fun _ _ _ _ _ _ us hl => match us, hl with | [_, _, _, _], _ => rfl
theorem d93 : BindsH r93 := fun _ _ _ _ _ _ us hl => match us, hl with | [_], _ => rfl
theorem d94 : BindsH r94 := fun _ _ _ _ _ _ us hl => match us, hl with | [_, _], _ => rfl
theorem d95 : BindsH r95 := fun _ _ _ _ _ _ us hl => match us, hl with | [_], _ => rfl
theorem d99 : BindsH r99 := fun _ _ _ _ _ _ us hl => match us, hl with | [_, _], _ => rfl
theorem d96 : BindsH r96 := fun _ _ _ _ _ _ us hl => match us, hl with | [_], _ => rfl
theorem d97 : BindsH r97 := fun _ _ _ _ _ _ us hl => match us, hl with | [_], _ => rfl
theorem d98 : BindsH r98 := fun _ _ _ _ _ _ us hl => match us, hl with | [_, _], _ => rfl
theorem d100 : BindsH r100 := fun _ _ _ _ _ _ us hl => match us, hl with | [_, _], _ => rfl
theorem d101 : BindsH r101 := fun _ _ _ _ _ _ us hl => match us, hl with | [_, _], _ => rfl
theorem d102 : BindsH r102 := fun _ _ _ _ _ _ us hl => match us, hl with | [_, _], _ => rfl
theorem d103 : BindsH r103 := fun _ _ _ _ _ _ us hl => match us, hl with | [_, _], _ => rfl
theorem d209 : BindsH r209 := fun _ _ _ _ _ _ us hl => match us, hl with | [_, _, _], _ => rfl
theorem d105 : BindsH r105 := fun _ _ _ _ _ _ us hl => match us, hl with | [_, _, _], _ => rfl
theorem d106 : BindsH r106 := fun _ _ _ _ _ _ us hl => match us, hl with | [_, _, _], _ => rfl
theorem d107 : BindsH r107 := fun _ _ _ _ _ _ us hl => match us, hl with | [_, _], _ => rfl
theorem d210 : BindsH r210 := fun _ _ _ _ _ _ us hl => match us, hl with | [_], _ => rfl
theorem d108 : BindsH r108 := fun _ _ _ _ _ _ us hl => match us, hl with | [_], _ => rfl
theorem d109 : BindsH r109 := fun _ _ _ _ _ _ us hl => match us, hl with | [_, _], _ => rfl
theorem d110 : BindsH r110 := fun _ _ _ _ _ _ us hl => match us, hl with | [_, _], _ => rfl
theorem d111 : BindsH r111 := fun _ _ _ _ _ _ us hl => match us, hl with | [_, _], _ => rfl
theorem d112 : BindsH r112 := fun _ _ _ _ _ _ us hl => match us, hl with | [_, _, _], _ => rfl
theorem d113 : BindsH r113 := fun _ _ _ _ _ _ us hl => match us, hl with | [_, _], _ => rfl
theorem d114 : BindsH r114 := fun _ _ _ _ _ _ us hl => match us, hl with | [_, _, _], _ => rfl
theorem d115 : BindsH r115 := fun _ _ _ _ _ _ us hl => match us, hl with | [_, _, _], _ => rfl
theorem d116 : BindsH r116 := fun _ _ _ _ _ _ us hl => match us, hl with | [_, _, _], _ => rfl
theorem d117 : BindsH r117 := fun _ _ _ _ _ _ us hl => match us, hl with | [_, _, _], _ => rfl
theorem d118 : BindsH r118 := fun _ _ _ _ _ _ us hl => match us, hl with | [_, _], _ => rfl
theorem d119 : BindsH r119 := fun _ _ _ _ _ _ us hl => match us, hl with | [_, _, _], _ => rfl
theorem d120 : BindsH r120 := fun _ _ _ _ _ _ us hl => match us, hl with | [_, _], _ => rfl
theorem d121 : BindsH r121 := fun _ _ _ _ _ _ us hl => match us, hl with | [_, _], _ => rfl
theorem d211 : BindsH r211 := fun _ _ _ _ _ _ us hl => match us, hl with | [_, _], _ => rfl
theorem d224 : BindsH r224 := fun _ _ _ _ _ _ us hl => match us, hl with | [_, _, _], _ => rfl
theorem d212 : BindsH r212 := fun _ _ _ _ _ _ us hl => match us, hl with | [_, _, _], _ => rfl
theorem d228 : BindsH r228 := fun _ _ _ _ _ _ us hl => match us, hl with | [_, _, _], _ => rfl
theorem d377 : BindsH r377 := fun _ _ _ _ _ _ us hl => match us, hl with | [_, _, _], _ => rfl
theorem d144 : BindsH r144 := fun _ _ _ _ _ _ us hl => match us, hl with | [_], _ => rfl
theorem hatt : attB atts = true := by decide +kernel
theorem hst : statB rows gk mt it = true := by decide +kernel
theorem hrows : AllL (fun p => rowB gk atts p.2 = true) rows := ⟨c0, c1, c2, c3, c5, c6, c7, c8, c9, c11, c12, c176, c177, c178, c179, c180, c181, c182, c183, c184, c185, c186, c187, c188, c189, c190, c202, c203, c204, c205, c206, c207, c215, c208, c216, c221, c222, c93, c94, c95, c99, c96, c97, c98, c100, c101, c102, c103, c209, c105, c106, c107, c210, c108, c109, c110, c111, c112, c113, c114, c115, c116, c117, c118, c119, c120, c121, c211, c224, c212, c228, c377, c144, trivial⟩
theorem hbinds : AllL (fun p => BindsH p.2) rows := ⟨d0, d1, d2, d3, d5, d6, d7, d8, d9, d11, d12, d176, d177, d178, d179, d180, d181, d182, d183, d184, d185, d186, d187, d188, d189, d190, d202, d203, d204, d205, d206, d207, d215, d208, d216, d221, d222, d93, d94, d95, d99, d96, d97, d98, d100, d101, d102, d103, d209, d105, d106, d107, d210, d108, d109, d110, d111, d112, d113, d114, d115, d116, d117, d118, d119, d120, d121, d211, d224, d212, d228, d377, d144, trivial⟩
theorem all_mk {K : PySem.W.Frag} {h : Heap} {mg : Str → Option Value} (X : K.In h) (G : h.Ns mainGlobals mg)
    {f0 : Addr} {oc0 kV0 dc0 pm0 cd0 ct0 : Value} {od0 an0 : Option Addr} {sl0 : Array (Option Value)}
    {f1 : Addr} {oc1 kV1 dc1 pm1 cd1 ct1 : Value} {od1 an1 : Option Addr} {sl1 : Array (Option Value)}
    {f2 : Addr} {oc2 kV2 dc2 pm2 cd2 ct2 : Value} {od2 an2 : Option Addr} {sl2 : Array (Option Value)}
    {f3 : Addr} {oc3 kV3 dc3 pm3 cd3 ct3 : Value} {od3 an3 : Option Addr} {sl3 : Array (Option Value)}
    {f5 : Addr} {oc5 kV5 dc5 pm5 cd5 ct5 : Value} {od5 an5 : Option Addr} {sl5 : Array (Option Value)}
    {f6 : Addr} {oc6 kV6 dc6 pm6 cd6 ct6 : Value} {od6 an6 : Option Addr} {sl6 : Array (Option Value)}
    {f7 : Addr} {oc7 kV7 dc7 pm7 cd7 ct7 : Value} {od7 an7 : Option Addr} {sl7 : Array (Option Value)}
    {f8 : Addr} {oc8 kV8 dc8 pm8 cd8 ct8 : Value} {od8 an8 : Option Addr} {sl8 : Array (Option Value)}
    {f9 : Addr} {oc9 kV9 dc9 pm9 cd9 ct9 : Value} {od9 an9 : Option Addr} {sl9 : Array (Option Value)}
    {f11 : Addr} {oc11 kV11 dc11 pm11 cd11 ct11 : Value} {od11 an11 : Option Addr} {sl11 : Array (Option Value)}
    {f12 : Addr} {oc12 kV12 dc12 pm12 cd12 ct12 : Value} {od12 an12 : Option Addr} {sl12 : Array (Option Value)}
    {f176 : Addr} {oc176 kV176 dc176 pm176 cd176 ct176 : Value} {od176 an176 : Option Addr} {sl176 : Array (Option Value)}
    {f177 : Addr} {oc177 kV177 dc177 pm177 cd177 ct177 : Value} {od177 an177 : Option Addr} {sl177 : Array (Option Value)}
    {f178 : Addr} {oc178 kV178 dc178 pm178 cd178 ct178 : Value} {od178 an178 : Option Addr} {sl178 : Array (Option Value)}
    {f179 : Addr} {oc179 kV179 dc179 pm179 cd179 ct179 : Value} {od179 an179 : Option Addr} {sl179 : Array (Option Value)}
    {f180 : Addr} {oc180 kV180 dc180 pm180 cd180 ct180 : Value} {od180 an180 : Option Addr} {sl180 : Array (Option Value)}
    {f181 : Addr} {oc181 kV181 dc181 pm181 cd181 ct181 : Value} {od181 an181 : Option Addr} {sl181 : Array (Option Value)}
    {f182 : Addr} {oc182 kV182 dc182 pm182 cd182 ct182 : Value} {od182 an182 : Option Addr} {sl182 : Array (Option Value)}
    {f183 : Addr} {oc183 kV183 dc183 pm183 cd183 ct183 : Value} {od183 an183 : Option Addr} {sl183 : Array (Option Value)}
    {f184 : Addr} {oc184 kV184 dc184 pm184 cd184 ct184 : Value} {od184 an184 : Option Addr} {sl184 : Array (Option Value)}
    {f185 : Addr} {oc185 kV185 dc185 pm185 cd185 ct185 : Value} {od185 an185 : Option Addr} {sl185 : Array (Option Value)}
    {f186 : Addr} {oc186 kV186 dc186 pm186 cd186 ct186 : Value} {od186 an186 : Option Addr} {sl186 : Array (Option Value)}
    {f187 : Addr} {oc187 kV187 dc187 pm187 cd187 ct187 : Value} {od187 an187 : Option Addr} {sl187 : Array (Option Value)}
    {f188 : Addr} {oc188 kV188 dc188 pm188 cd188 ct188 : Value} {od188 an188 : Option Addr} {sl188 : Array (Option Value)}
    {f189 : Addr} {oc189 kV189 dc189 pm189 cd189 ct189 : Value} {od189 an189 : Option Addr} {sl189 : Array (Option Value)}
    {f190 : Addr} {oc190 kV190 dc190 pm190 cd190 ct190 : Value} {od190 an190 : Option Addr} {sl190 : Array (Option Value)}
    {f202 : Addr} {oc202 kV202 dc202 pm202 cd202 ct202 : Value} {od202 an202 : Option Addr} {sl202 : Array (Option Value)}
    {f203 : Addr} {oc203 kV203 dc203 pm203 cd203 ct203 : Value} {od203 an203 : Option Addr} {sl203 : Array (Option Value)}
    {f204 : Addr} {oc204 kV204 dc204 pm204 cd204 ct204 : Value} {od204 an204 : Option Addr} {sl204 : Array (Option Value)}
    {f205 : Addr} {oc205 kV205 dc205 pm205 cd205 ct205 : Value} {od205 an205 : Option Addr} {sl205 : Array (Option Value)}
    {f206 : Addr} {oc206 kV206 dc206 pm206 cd206 ct206 : Value} {od206 an206 : Option Addr} {sl206 : Array (Option Value)}
    {f207 : Addr} {oc207 kV207 dc207 pm207 cd207 ct207 : Value} {od207 an207 : Option Addr} {sl207 : Array (Option Value)}
    {f215 : Addr} {oc215 kV215 dc215 pm215 cd215 ct215 : Value} {od215 an215 : Option Addr} {sl215 : Array (Option Value)}
    {f208 : Addr} {oc208 kV208 dc208 pm208 cd208 ct208 : Value} {od208 an208 : Option Addr} {sl208 : Array (Option Value)}
    {f216 : Addr} {oc216 kV216 dc216 pm216 cd216 ct216 : Value} {od216 an216 : Option Addr} {sl216 : Array (Option Value)}
    {f221 : Addr} {oc221 kV221 dc221 pm221 cd221 ct221 : Value} {od221 an221 : Option Addr} {sl221 : Array (Option Value)}
    {f222 : Addr} {oc222 kV222 dc222 pm222 cd222 ct222 : Value} {od222 an222 : Option Addr} {sl222 : Array (Option Value)}
    {f93 : Addr} {oc93 kV93 dc93 pm93 cd93 ct93 : Value} {od93 an93 : Option Addr} {sl93 : Array (Option Value)}
    {f94 : Addr} {oc94 kV94 dc94 pm94 cd94 ct94 : Value} {od94 an94 : Option Addr} {sl94 : Array (Option Value)}
    {f95 : Addr} {oc95 kV95 dc95 pm95 cd95 ct95 : Value} {od95 an95 : Option Addr} {sl95 : Array (Option Value)}
    {f99 : Addr} {oc99 kV99 dc99 pm99 cd99 ct99 : Value} {od99 an99 : Option Addr} {sl99 : Array (Option Value)}
    {f96 : Addr} {oc96 kV96 dc96 pm96 cd96 ct96 : Value} {od96 an96 : Option Addr} {sl96 : Array (Option Value)}
    {f97 : Addr} {oc97 kV97 dc97 pm97 cd97 ct97 : Value} {od97 an97 : Option Addr} {sl97 : Array (Option Value)}
    {f98 : Addr} {oc98 kV98 dc98 pm98 cd98 ct98 : Value} {od98 an98 : Option Addr} {sl98 : Array (Option Value)}
    {f100 : Addr} {oc100 kV100 dc100 pm100 cd100 ct100 : Value} {od100 an100 : Option Addr} {sl100 : Array (Option Value)}
    {f101 : Addr} {oc101 kV101 dc101 pm101 cd101 ct101 : Value} {od101 an101 : Option Addr} {sl101 : Array (Option Value)}
    {f102 : Addr} {oc102 kV102 dc102 pm102 cd102 ct102 : Value} {od102 an102 : Option Addr} {sl102 : Array (Option Value)}
    {f103 : Addr} {oc103 kV103 dc103 pm103 cd103 ct103 : Value} {od103 an103 : Option Addr} {sl103 : Array (Option Value)}
    {f209 : Addr} {oc209 kV209 dc209 pm209 cd209 ct209 : Value} {od209 an209 : Option Addr} {sl209 : Array (Option Value)}
    {f105 : Addr} {oc105 kV105 dc105 pm105 cd105 ct105 : Value} {od105 an105 : Option Addr} {sl105 : Array (Option Value)}
    {f106 : Addr} {oc106 kV106 dc106 pm106 cd106 ct106 : Value} {od106 an106 : Option Addr} {sl106 : Array (Option Value)}
    {f107 : Addr} {oc107 kV107 dc107 pm107 cd107 ct107 : Value} {od107 an107 : Option Addr} {sl107 : Array (Option Value)}
    {f210 : Addr} {oc210 kV210 dc210 pm210 cd210 ct210 : Value} {od210 an210 : Option Addr} {sl210 : Array (Option Value)}
    {f108 : Addr} {oc108 kV108 dc108 pm108 cd108 ct108 : Value} {od108 an108 : Option Addr} {sl108 : Array (Option Value)}
    {f109 : Addr} {oc109 kV109 dc109 pm109 cd109 ct109 : Value} {od109 an109 : Option Addr} {sl109 : Array (Option Value)}
    {f110 : Addr} {oc110 kV110 dc110 pm110 cd110 ct110 : Value} {od110 an110 : Option Addr} {sl110 : Array (Option Value)}
    {f111 : Addr} {oc111 kV111 dc111 pm111 cd111 ct111 : Value} {od111 an111 : Option Addr} {sl111 : Array (Option Value)}
    {f112 : Addr} {oc112 kV112 dc112 pm112 cd112 ct112 : Value} {od112 an112 : Option Addr} {sl112 : Array (Option Value)}
    {f113 : Addr} {oc113 kV113 dc113 pm113 cd113 ct113 : Value} {od113 an113 : Option Addr} {sl113 : Array (Option Value)}
    {f114 : Addr} {oc114 kV114 dc114 pm114 cd114 ct114 : Value} {od114 an114 : Option Addr} {sl114 : Array (Option Value)}
    {f115 : Addr} {oc115 kV115 dc115 pm115 cd115 ct115 : Value} {od115 an115 : Option Addr} {sl115 : Array (Option Value)}
    {f116 : Addr} {oc116 kV116 dc116 pm116 cd116 ct116 : Value} {od116 an116 : Option Addr} {sl116 : Array (Option Value)}
    {f117 : Addr} {oc117 kV117 dc117 pm117 cd117 ct117 : Value} {od117 an117 : Option Addr} {sl117 : Array (Option Value)}
    {f118 : Addr} {oc118 kV118 dc118 pm118 cd118 ct118 : Value} {od118 an118 : Option Addr} {sl118 : Array (Option Value)}
    {f119 : Addr} {oc119 kV119 dc119 pm119 cd119 ct119 : Value} {od119 an119 : Option Addr} {sl119 : Array (Option Value)}
    {f120 : Addr} {oc120 kV120 dc120 pm120 cd120 ct120 : Value} {od120 an120 : Option Addr} {sl120 : Array (Option Value)}
    {f121 : Addr} {oc121 kV121 dc121 pm121 cd121 ct121 : Value} {od121 an121 : Option Addr} {sl121 : Array (Option Value)}
    {f211 : Addr} {oc211 kV211 dc211 pm211 cd211 ct211 : Value} {od211 an211 : Option Addr} {sl211 : Array (Option Value)}
    {f224 : Addr} {oc224 kV224 dc224 pm224 cd224 ct224 : Value} {od224 an224 : Option Addr} {sl224 : Array (Option Value)}
    {f212 : Addr} {oc212 kV212 dc212 pm212 cd212 ct212 : Value} {od212 an212 : Option Addr} {sl212 : Array (Option Value)}
    {f228 : Addr} {oc228 kV228 dc228 pm228 cd228 ct228 : Value} {od228 an228 : Option Addr} {sl228 : Array (Option Value)}
    {f377 : Addr} {oc377 kV377 dc377 pm377 cd377 ct377 : Value} {od377 an377 : Option Addr} {sl377 : Array (Option Value)}
    {f144 : Addr} {oc144 kV144 dc144 pm144 cd144 ct144 : Value} {od144 an144 : Option Addr} {sl144 : Array (Option Value)}
    {C5 : Addr}
    (a0 : PySem.W.nsIn K mainGlobals "_wall" = some (some (.ref f0)))
    (a1 : PySem.W.nsIn K mainGlobals "trim" = some (some (.ref f1)))
    (a2 : PySem.W.nsIn K mainGlobals "degree" = some (some (.ref f2)))
    (a3 : PySem.W.nsIn K mainGlobals "last" = some (some (.ref f3)))
    (a5 : PySem.W.nsIn K mainGlobals "padd" = some (some (.ref f5)))
    (a6 : PySem.W.nsIn K mainGlobals "pneg" = some (some (.ref f6)))
    (a7 : PySem.W.nsIn K mainGlobals "psub" = some (some (.ref f7)))
    (a8 : PySem.W.nsIn K mainGlobals "pscale" = some (some (.ref f8)))
    (a9 : PySem.W.nsIn K mainGlobals "pmul" = some (some (.ref f9)))
    (a11 : PySem.W.nsIn K mainGlobals "pdivide" = some (some (.ref f11)))
    (a12 : PySem.W.nsIn K mainGlobals "pquotient" = some (some (.ref f12)))
    (a202 : PySem.W.nsIn K mainGlobals "root_part" = some (some (.ref f202)))
    (a203 : PySem.W.nsIn K mainGlobals "first_state" = some (some (.ref f203)))
    (a204 : PySem.W.nsIn K mainGlobals "next_state" = some (some (.ref f204)))
    (a205 : PySem.W.nsIn K mainGlobals "next_pairs" = some (some (.ref f205)))
    (a206 : PySem.W.nsIn K mainGlobals "chain_states" = some (some (.ref f206)))
    (a207 : PySem.W.nsIn K mainGlobals "chain_pairs" = some (some (.ref f207)))
    (a215 : PySem.W.nsIn K mainGlobals "unit_to" = some (some (.ref f215)))
    (a208 : PySem.W.nsIn K mainGlobals "root_norm" = some (some (.ref f208)))
    (a216 : PySem.W.nsIn K mainGlobals "is_unit" = some (some (.ref f216)))
    (a221 : PySem.W.nsIn K mainGlobals "unit_product" = some (some (.ref f221)))
    (a222 : PySem.W.nsIn K mainGlobals "unit_power" = some (some (.ref f222)))
    (a93 : PySem.W.nsIn K mainGlobals "_law_state" = some (some (.ref f93)))
    (a94 : PySem.W.nsIn K mainGlobals "_law_take" = some (some (.ref f94)))
    (a95 : PySem.W.nsIn K mainGlobals "_law_odd" = some (some (.ref f95)))
    (a99 : PySem.W.nsIn K mainGlobals "_law_says" = some (some (.ref f99)))
    (a96 : PySem.W.nsIn K mainGlobals "_law_honest" = some (some (.ref f96)))
    (a97 : PySem.W.nsIn K mainGlobals "_law_is_whole" = some (some (.ref f97)))
    (a98 : PySem.W.nsIn K mainGlobals "_law_same" = some (some (.ref f98)))
    (a100 : PySem.W.nsIn K mainGlobals "_law_frac" = some (some (.ref f100)))
    (a101 : PySem.W.nsIn K mainGlobals "_law_plus" = some (some (.ref f101)))
    (a102 : PySem.W.nsIn K mainGlobals "_law_times" = some (some (.ref f102)))
    (a103 : PySem.W.nsIn K mainGlobals "_law_over" = some (some (.ref f103)))
    (a209 : PySem.W.nsIn K mainGlobals "_law_chain" = some (some (.ref f209)))
    (a105 : PySem.W.nsIn K mainGlobals "_law_fadd" = some (some (.ref f105)))
    (a106 : PySem.W.nsIn K mainGlobals "_law_fmul" = some (some (.ref f106)))
    (a107 : PySem.W.nsIn K mainGlobals "_law_fneg" = some (some (.ref f107)))
    (a210 : PySem.W.nsIn K mainGlobals "_law_fone" = some (some (.ref f210)))
    (a108 : PySem.W.nsIn K mainGlobals "_law_fnone" = some (some (.ref f108)))
    (a109 : PySem.W.nsIn K mainGlobals "_law_fint" = some (some (.ref f109)))
    (a110 : PySem.W.nsIn K mainGlobals "_law_finv" = some (some (.ref f110)))
    (a111 : PySem.W.nsIn K mainGlobals "_law_pcut" = some (some (.ref f111)))
    (a112 : PySem.W.nsIn K mainGlobals "_law_padd" = some (some (.ref f112)))
    (a113 : PySem.W.nsIn K mainGlobals "_law_pneg" = some (some (.ref f113)))
    (a114 : PySem.W.nsIn K mainGlobals "_law_psub" = some (some (.ref f114)))
    (a115 : PySem.W.nsIn K mainGlobals "_law_pmul" = some (some (.ref f115)))
    (a116 : PySem.W.nsIn K mainGlobals "_law_pscale" = some (some (.ref f116)))
    (a117 : PySem.W.nsIn K mainGlobals "_law_pdivide" = some (some (.ref f117)))
    (a118 : PySem.W.nsIn K mainGlobals "_law_pmonic" = some (some (.ref f118)))
    (a119 : PySem.W.nsIn K mainGlobals "_law_pgcd" = some (some (.ref f119)))
    (a120 : PySem.W.nsIn K mainGlobals "_law_pslope" = some (some (.ref f120)))
    (a121 : PySem.W.nsIn K mainGlobals "_law_squarefree" = some (some (.ref f121)))
    (a211 : PySem.W.nsIn K mainGlobals "_law_root_part" = some (some (.ref f211)))
    (a224 : PySem.W.nsIn K mainGlobals "_law_least_unit" = some (some (.ref f224)))
    (a212 : PySem.W.nsIn K mainGlobals "_law_drawn" = some (some (.ref f212)))
    (a228 : PySem.W.nsIn K mainGlobals "_law_unit_holds" = some (some (.ref f228)))
    (a377 : PySem.W.nsIn K mainGlobals "_law_states_hold" = some (some (.ref f377)))
    (a144 : PySem.W.nsIn K mainGlobals "law" = some (some (.ref f144)))
    (k5 : PySem.W.nsIn K mainGlobals "PrimeField" = some (some (.ref C5)))
    (z_len : PySem.W.nsIn K mainGlobals "len" = some none)
    (z_tuple : PySem.W.nsIn K mainGlobals "tuple" = some none)
    (z_list : PySem.W.nsIn K mainGlobals "list" = some none)
    (z_enumerate : PySem.W.nsIn K mainGlobals "enumerate" = some none)
    (z_range : PySem.W.nsIn K mainGlobals "range" = some none)
    (z_abs : PySem.W.nsIn K mainGlobals "abs" = some none)
    (z_int : PySem.W.nsIn K mainGlobals "int" = some none)
    (z_isinstance : PySem.W.nsIn K mainGlobals "isinstance" = some none)
    (z_bool : PySem.W.nsIn K mainGlobals "bool" = some none)
    (z_all : PySem.W.nsIn K mainGlobals "all" = some none)
    (z_str : PySem.W.nsIn K mainGlobals "str" = some none)
    (z_max : PySem.W.nsIn K mainGlobals "max" = some none)
    (i5 : PySem.W.findIn K (.ref C5) "__init__" = some (some (.ref f176)))
    (m0 : PySem.W.findIn K (.ref C5) "level" = some (some (.ref f177)))
    (m1 : PySem.W.findIn K (.ref C5) "zero" = some (some (.ref f178)))
    (m2 : PySem.W.findIn K (.ref C5) "one" = some (some (.ref f179)))
    (m3 : PySem.W.findIn K (.ref C5) "is_zero" = some (some (.ref f180)))
    (m4 : PySem.W.findIn K (.ref C5) "add" = some (some (.ref f181)))
    (m5 : PySem.W.findIn K (.ref C5) "subtract" = some (some (.ref f182)))
    (m6 : PySem.W.findIn K (.ref C5) "negative" = some (some (.ref f183)))
    (m7 : PySem.W.findIn K (.ref C5) "multiply" = some (some (.ref f184)))
    (m8 : PySem.W.findIn K (.ref C5) "inverse" = some (some (.ref f185)))
    (m9 : PySem.W.findIn K (.ref C5) "divide" = some (some (.ref f186)))
    (m10 : PySem.W.findIn K (.ref C5) "power" = some (some (.ref f187)))
    (m11 : PySem.W.findIn K (.ref C5) "rational" = some (some (.ref f188)))
    (m12 : PySem.W.findIn K (.ref C5) "is_element" = some (some (.ref f189)))
    (m13 : PySem.W.findIn K (.ref C5) "roots_of" = some (some (.ref f190)))
    (n176 : PySem.W.isFn K (.ref f176) = true)
    (n177 : PySem.W.isFn K (.ref f177) = true)
    (n178 : PySem.W.isFn K (.ref f178) = true)
    (n179 : PySem.W.isFn K (.ref f179) = true)
    (n180 : PySem.W.isFn K (.ref f180) = true)
    (n181 : PySem.W.isFn K (.ref f181) = true)
    (n182 : PySem.W.isFn K (.ref f182) = true)
    (n183 : PySem.W.isFn K (.ref f183) = true)
    (n184 : PySem.W.isFn K (.ref f184) = true)
    (n185 : PySem.W.isFn K (.ref f185) = true)
    (n186 : PySem.W.isFn K (.ref f186) = true)
    (n187 : PySem.W.isFn K (.ref f187) = true)
    (n188 : PySem.W.isFn K (.ref f188) = true)
    (n189 : PySem.W.isFn K (.ref f189) = true)
    (n190 : PySem.W.isFn K (.ref f190) = true)
    (l0 : K.lookup f0 = some ⟨oc0, od0, .func (PySem.W.fnOf r0.x r0.qual (defArgs r0.st) (defBody r0.st) (defScope r0.st) .none kV0 dc0 pm0 an0 cd0 ct0), sl0⟩)
    (c0_ : PySem.W.codeIn K cd0 r0.qual = true)
    (p0_ : PySem.W.keepIn K (.ref f0) = true)
    (l1 : K.lookup f1 = some ⟨oc1, od1, .func (PySem.W.fnOf r1.x r1.qual (defArgs r1.st) (defBody r1.st) (defScope r1.st) .none kV1 dc1 pm1 an1 cd1 ct1), sl1⟩)
    (c1_ : PySem.W.codeIn K cd1 r1.qual = true)
    (p1_ : PySem.W.keepIn K (.ref f1) = true)
    (l2 : K.lookup f2 = some ⟨oc2, od2, .func (PySem.W.fnOf r2.x r2.qual (defArgs r2.st) (defBody r2.st) (defScope r2.st) .none kV2 dc2 pm2 an2 cd2 ct2), sl2⟩)
    (c2_ : PySem.W.codeIn K cd2 r2.qual = true)
    (p2_ : PySem.W.keepIn K (.ref f2) = true)
    (l3 : K.lookup f3 = some ⟨oc3, od3, .func (PySem.W.fnOf r3.x r3.qual (defArgs r3.st) (defBody r3.st) (defScope r3.st) .none kV3 dc3 pm3 an3 cd3 ct3), sl3⟩)
    (c3_ : PySem.W.codeIn K cd3 r3.qual = true)
    (p3_ : PySem.W.keepIn K (.ref f3) = true)
    (l5 : K.lookup f5 = some ⟨oc5, od5, .func (PySem.W.fnOf r5.x r5.qual (defArgs r5.st) (defBody r5.st) (defScope r5.st) .none kV5 dc5 pm5 an5 cd5 ct5), sl5⟩)
    (c5_ : PySem.W.codeIn K cd5 r5.qual = true)
    (p5_ : PySem.W.keepIn K (.ref f5) = true)
    (l6 : K.lookup f6 = some ⟨oc6, od6, .func (PySem.W.fnOf r6.x r6.qual (defArgs r6.st) (defBody r6.st) (defScope r6.st) .none kV6 dc6 pm6 an6 cd6 ct6), sl6⟩)
    (c6_ : PySem.W.codeIn K cd6 r6.qual = true)
    (p6_ : PySem.W.keepIn K (.ref f6) = true)
    (l7 : K.lookup f7 = some ⟨oc7, od7, .func (PySem.W.fnOf r7.x r7.qual (defArgs r7.st) (defBody r7.st) (defScope r7.st) .none kV7 dc7 pm7 an7 cd7 ct7), sl7⟩)
    (c7_ : PySem.W.codeIn K cd7 r7.qual = true)
    (p7_ : PySem.W.keepIn K (.ref f7) = true)
    (l8 : K.lookup f8 = some ⟨oc8, od8, .func (PySem.W.fnOf r8.x r8.qual (defArgs r8.st) (defBody r8.st) (defScope r8.st) .none kV8 dc8 pm8 an8 cd8 ct8), sl8⟩)
    (c8_ : PySem.W.codeIn K cd8 r8.qual = true)
    (p8_ : PySem.W.keepIn K (.ref f8) = true)
    (l9 : K.lookup f9 = some ⟨oc9, od9, .func (PySem.W.fnOf r9.x r9.qual (defArgs r9.st) (defBody r9.st) (defScope r9.st) .none kV9 dc9 pm9 an9 cd9 ct9), sl9⟩)
    (c9_ : PySem.W.codeIn K cd9 r9.qual = true)
    (p9_ : PySem.W.keepIn K (.ref f9) = true)
    (l11 : K.lookup f11 = some ⟨oc11, od11, .func (PySem.W.fnOf r11.x r11.qual (defArgs r11.st) (defBody r11.st) (defScope r11.st) .none kV11 dc11 pm11 an11 cd11 ct11), sl11⟩)
    (c11_ : PySem.W.codeIn K cd11 r11.qual = true)
    (p11_ : PySem.W.keepIn K (.ref f11) = true)
    (l12 : K.lookup f12 = some ⟨oc12, od12, .func (PySem.W.fnOf r12.x r12.qual (defArgs r12.st) (defBody r12.st) (defScope r12.st) .none kV12 dc12 pm12 an12 cd12 ct12), sl12⟩)
    (c12_ : PySem.W.codeIn K cd12 r12.qual = true)
    (p12_ : PySem.W.keepIn K (.ref f12) = true)
    (l176 : K.lookup f176 = some ⟨oc176, od176, .func (PySem.W.fnOf r176.x r176.qual (defArgs r176.st) (defBody r176.st) (defScope r176.st) .none kV176 dc176 pm176 an176 cd176 ct176), sl176⟩)
    (c176_ : PySem.W.codeIn K cd176 r176.qual = true)
    (p176_ : PySem.W.keepIn K (.ref f176) = true)
    (l177 : K.lookup f177 = some ⟨oc177, od177, .func (PySem.W.fnOf r177.x r177.qual (defArgs r177.st) (defBody r177.st) (defScope r177.st) .none kV177 dc177 pm177 an177 cd177 ct177), sl177⟩)
    (c177_ : PySem.W.codeIn K cd177 r177.qual = true)
    (p177_ : PySem.W.keepIn K (.ref f177) = true)
    (l178 : K.lookup f178 = some ⟨oc178, od178, .func (PySem.W.fnOf r178.x r178.qual (defArgs r178.st) (defBody r178.st) (defScope r178.st) .none kV178 dc178 pm178 an178 cd178 ct178), sl178⟩)
    (c178_ : PySem.W.codeIn K cd178 r178.qual = true)
    (p178_ : PySem.W.keepIn K (.ref f178) = true)
    (l179 : K.lookup f179 = some ⟨oc179, od179, .func (PySem.W.fnOf r179.x r179.qual (defArgs r179.st) (defBody r179.st) (defScope r179.st) .none kV179 dc179 pm179 an179 cd179 ct179), sl179⟩)
    (c179_ : PySem.W.codeIn K cd179 r179.qual = true)
    (p179_ : PySem.W.keepIn K (.ref f179) = true)
    (l180 : K.lookup f180 = some ⟨oc180, od180, .func (PySem.W.fnOf r180.x r180.qual (defArgs r180.st) (defBody r180.st) (defScope r180.st) .none kV180 dc180 pm180 an180 cd180 ct180), sl180⟩)
    (c180_ : PySem.W.codeIn K cd180 r180.qual = true)
    (p180_ : PySem.W.keepIn K (.ref f180) = true)
    (l181 : K.lookup f181 = some ⟨oc181, od181, .func (PySem.W.fnOf r181.x r181.qual (defArgs r181.st) (defBody r181.st) (defScope r181.st) .none kV181 dc181 pm181 an181 cd181 ct181), sl181⟩)
    (c181_ : PySem.W.codeIn K cd181 r181.qual = true)
    (p181_ : PySem.W.keepIn K (.ref f181) = true)
    (l182 : K.lookup f182 = some ⟨oc182, od182, .func (PySem.W.fnOf r182.x r182.qual (defArgs r182.st) (defBody r182.st) (defScope r182.st) .none kV182 dc182 pm182 an182 cd182 ct182), sl182⟩)
    (c182_ : PySem.W.codeIn K cd182 r182.qual = true)
    (p182_ : PySem.W.keepIn K (.ref f182) = true)
    (l183 : K.lookup f183 = some ⟨oc183, od183, .func (PySem.W.fnOf r183.x r183.qual (defArgs r183.st) (defBody r183.st) (defScope r183.st) .none kV183 dc183 pm183 an183 cd183 ct183), sl183⟩)
    (c183_ : PySem.W.codeIn K cd183 r183.qual = true)
    (p183_ : PySem.W.keepIn K (.ref f183) = true)
    (l184 : K.lookup f184 = some ⟨oc184, od184, .func (PySem.W.fnOf r184.x r184.qual (defArgs r184.st) (defBody r184.st) (defScope r184.st) .none kV184 dc184 pm184 an184 cd184 ct184), sl184⟩)
    (c184_ : PySem.W.codeIn K cd184 r184.qual = true)
    (p184_ : PySem.W.keepIn K (.ref f184) = true)
    (l185 : K.lookup f185 = some ⟨oc185, od185, .func (PySem.W.fnOf r185.x r185.qual (defArgs r185.st) (defBody r185.st) (defScope r185.st) .none kV185 dc185 pm185 an185 cd185 ct185), sl185⟩)
    (c185_ : PySem.W.codeIn K cd185 r185.qual = true)
    (p185_ : PySem.W.keepIn K (.ref f185) = true)
    (l186 : K.lookup f186 = some ⟨oc186, od186, .func (PySem.W.fnOf r186.x r186.qual (defArgs r186.st) (defBody r186.st) (defScope r186.st) .none kV186 dc186 pm186 an186 cd186 ct186), sl186⟩)
    (c186_ : PySem.W.codeIn K cd186 r186.qual = true)
    (p186_ : PySem.W.keepIn K (.ref f186) = true)
    (l187 : K.lookup f187 = some ⟨oc187, od187, .func (PySem.W.fnOf r187.x r187.qual (defArgs r187.st) (defBody r187.st) (defScope r187.st) .none kV187 dc187 pm187 an187 cd187 ct187), sl187⟩)
    (c187_ : PySem.W.codeIn K cd187 r187.qual = true)
    (p187_ : PySem.W.keepIn K (.ref f187) = true)
    (l188 : K.lookup f188 = some ⟨oc188, od188, .func (PySem.W.fnOf r188.x r188.qual (defArgs r188.st) (defBody r188.st) (defScope r188.st) .none kV188 dc188 pm188 an188 cd188 ct188), sl188⟩)
    (c188_ : PySem.W.codeIn K cd188 r188.qual = true)
    (p188_ : PySem.W.keepIn K (.ref f188) = true)
    (l189 : K.lookup f189 = some ⟨oc189, od189, .func (PySem.W.fnOf r189.x r189.qual (defArgs r189.st) (defBody r189.st) (defScope r189.st) .none kV189 dc189 pm189 an189 cd189 ct189), sl189⟩)
    (c189_ : PySem.W.codeIn K cd189 r189.qual = true)
    (p189_ : PySem.W.keepIn K (.ref f189) = true)
    (l190 : K.lookup f190 = some ⟨oc190, od190, .func (PySem.W.fnOf r190.x r190.qual (defArgs r190.st) (defBody r190.st) (defScope r190.st) .none kV190 dc190 pm190 an190 cd190 ct190), sl190⟩)
    (c190_ : PySem.W.codeIn K cd190 r190.qual = true)
    (p190_ : PySem.W.keepIn K (.ref f190) = true)
    (l202 : K.lookup f202 = some ⟨oc202, od202, .func (PySem.W.fnOf r202.x r202.qual (defArgs r202.st) (defBody r202.st) (defScope r202.st) .none kV202 dc202 pm202 an202 cd202 ct202), sl202⟩)
    (c202_ : PySem.W.codeIn K cd202 r202.qual = true)
    (p202_ : PySem.W.keepIn K (.ref f202) = true)
    (l203 : K.lookup f203 = some ⟨oc203, od203, .func (PySem.W.fnOf r203.x r203.qual (defArgs r203.st) (defBody r203.st) (defScope r203.st) .none kV203 dc203 pm203 an203 cd203 ct203), sl203⟩)
    (c203_ : PySem.W.codeIn K cd203 r203.qual = true)
    (p203_ : PySem.W.keepIn K (.ref f203) = true)
    (l204 : K.lookup f204 = some ⟨oc204, od204, .func (PySem.W.fnOf r204.x r204.qual (defArgs r204.st) (defBody r204.st) (defScope r204.st) .none kV204 dc204 pm204 an204 cd204 ct204), sl204⟩)
    (c204_ : PySem.W.codeIn K cd204 r204.qual = true)
    (p204_ : PySem.W.keepIn K (.ref f204) = true)
    (l205 : K.lookup f205 = some ⟨oc205, od205, .func (PySem.W.fnOf r205.x r205.qual (defArgs r205.st) (defBody r205.st) (defScope r205.st) .none kV205 dc205 pm205 an205 cd205 ct205), sl205⟩)
    (c205_ : PySem.W.codeIn K cd205 r205.qual = true)
    (p205_ : PySem.W.keepIn K (.ref f205) = true)
    (l206 : K.lookup f206 = some ⟨oc206, od206, .func (PySem.W.fnOf r206.x r206.qual (defArgs r206.st) (defBody r206.st) (defScope r206.st) .none kV206 dc206 pm206 an206 cd206 ct206), sl206⟩)
    (c206_ : PySem.W.codeIn K cd206 r206.qual = true)
    (p206_ : PySem.W.keepIn K (.ref f206) = true)
    (l207 : K.lookup f207 = some ⟨oc207, od207, .func (PySem.W.fnOf r207.x r207.qual (defArgs r207.st) (defBody r207.st) (defScope r207.st) .none kV207 dc207 pm207 an207 cd207 ct207), sl207⟩)
    (c207_ : PySem.W.codeIn K cd207 r207.qual = true)
    (p207_ : PySem.W.keepIn K (.ref f207) = true)
    (l215 : K.lookup f215 = some ⟨oc215, od215, .func (PySem.W.fnOf r215.x r215.qual (defArgs r215.st) (defBody r215.st) (defScope r215.st) .none kV215 dc215 pm215 an215 cd215 ct215), sl215⟩)
    (c215_ : PySem.W.codeIn K cd215 r215.qual = true)
    (p215_ : PySem.W.keepIn K (.ref f215) = true)
    (l208 : K.lookup f208 = some ⟨oc208, od208, .func (PySem.W.fnOf r208.x r208.qual (defArgs r208.st) (defBody r208.st) (defScope r208.st) .none kV208 dc208 pm208 an208 cd208 ct208), sl208⟩)
    (c208_ : PySem.W.codeIn K cd208 r208.qual = true)
    (p208_ : PySem.W.keepIn K (.ref f208) = true)
    (l216 : K.lookup f216 = some ⟨oc216, od216, .func (PySem.W.fnOf r216.x r216.qual (defArgs r216.st) (defBody r216.st) (defScope r216.st) .none kV216 dc216 pm216 an216 cd216 ct216), sl216⟩)
    (c216_ : PySem.W.codeIn K cd216 r216.qual = true)
    (p216_ : PySem.W.keepIn K (.ref f216) = true)
    (l221 : K.lookup f221 = some ⟨oc221, od221, .func (PySem.W.fnOf r221.x r221.qual (defArgs r221.st) (defBody r221.st) (defScope r221.st) .none kV221 dc221 pm221 an221 cd221 ct221), sl221⟩)
    (c221_ : PySem.W.codeIn K cd221 r221.qual = true)
    (p221_ : PySem.W.keepIn K (.ref f221) = true)
    (l222 : K.lookup f222 = some ⟨oc222, od222, .func (PySem.W.fnOf r222.x r222.qual (defArgs r222.st) (defBody r222.st) (defScope r222.st) .none kV222 dc222 pm222 an222 cd222 ct222), sl222⟩)
    (c222_ : PySem.W.codeIn K cd222 r222.qual = true)
    (p222_ : PySem.W.keepIn K (.ref f222) = true)
    (l93 : K.lookup f93 = some ⟨oc93, od93, .func (PySem.W.fnOf r93.x r93.qual (defArgs r93.st) (defBody r93.st) (defScope r93.st) .none kV93 dc93 pm93 an93 cd93 ct93), sl93⟩)
    (c93_ : PySem.W.codeIn K cd93 r93.qual = true)
    (p93_ : PySem.W.keepIn K (.ref f93) = true)
    (l94 : K.lookup f94 = some ⟨oc94, od94, .func (PySem.W.fnOf r94.x r94.qual (defArgs r94.st) (defBody r94.st) (defScope r94.st) .none kV94 dc94 pm94 an94 cd94 ct94), sl94⟩)
    (c94_ : PySem.W.codeIn K cd94 r94.qual = true)
    (p94_ : PySem.W.keepIn K (.ref f94) = true)
    (l95 : K.lookup f95 = some ⟨oc95, od95, .func (PySem.W.fnOf r95.x r95.qual (defArgs r95.st) (defBody r95.st) (defScope r95.st) .none kV95 dc95 pm95 an95 cd95 ct95), sl95⟩)
    (c95_ : PySem.W.codeIn K cd95 r95.qual = true)
    (p95_ : PySem.W.keepIn K (.ref f95) = true)
    (l99 : K.lookup f99 = some ⟨oc99, od99, .func (PySem.W.fnOf r99.x r99.qual (defArgs r99.st) (defBody r99.st) (defScope r99.st) .none kV99 dc99 pm99 an99 cd99 ct99), sl99⟩)
    (c99_ : PySem.W.codeIn K cd99 r99.qual = true)
    (p99_ : PySem.W.keepIn K (.ref f99) = true)
    (l96 : K.lookup f96 = some ⟨oc96, od96, .func (PySem.W.fnOf r96.x r96.qual (defArgs r96.st) (defBody r96.st) (defScope r96.st) .none kV96 dc96 pm96 an96 cd96 ct96), sl96⟩)
    (c96_ : PySem.W.codeIn K cd96 r96.qual = true)
    (p96_ : PySem.W.keepIn K (.ref f96) = true)
    (l97 : K.lookup f97 = some ⟨oc97, od97, .func (PySem.W.fnOf r97.x r97.qual (defArgs r97.st) (defBody r97.st) (defScope r97.st) .none kV97 dc97 pm97 an97 cd97 ct97), sl97⟩)
    (c97_ : PySem.W.codeIn K cd97 r97.qual = true)
    (p97_ : PySem.W.keepIn K (.ref f97) = true)
    (l98 : K.lookup f98 = some ⟨oc98, od98, .func (PySem.W.fnOf r98.x r98.qual (defArgs r98.st) (defBody r98.st) (defScope r98.st) .none kV98 dc98 pm98 an98 cd98 ct98), sl98⟩)
    (c98_ : PySem.W.codeIn K cd98 r98.qual = true)
    (p98_ : PySem.W.keepIn K (.ref f98) = true)
    (l100 : K.lookup f100 = some ⟨oc100, od100, .func (PySem.W.fnOf r100.x r100.qual (defArgs r100.st) (defBody r100.st) (defScope r100.st) .none kV100 dc100 pm100 an100 cd100 ct100), sl100⟩)
    (c100_ : PySem.W.codeIn K cd100 r100.qual = true)
    (p100_ : PySem.W.keepIn K (.ref f100) = true)
    (l101 : K.lookup f101 = some ⟨oc101, od101, .func (PySem.W.fnOf r101.x r101.qual (defArgs r101.st) (defBody r101.st) (defScope r101.st) .none kV101 dc101 pm101 an101 cd101 ct101), sl101⟩)
    (c101_ : PySem.W.codeIn K cd101 r101.qual = true)
    (p101_ : PySem.W.keepIn K (.ref f101) = true)
    (l102 : K.lookup f102 = some ⟨oc102, od102, .func (PySem.W.fnOf r102.x r102.qual (defArgs r102.st) (defBody r102.st) (defScope r102.st) .none kV102 dc102 pm102 an102 cd102 ct102), sl102⟩)
    (c102_ : PySem.W.codeIn K cd102 r102.qual = true)
    (p102_ : PySem.W.keepIn K (.ref f102) = true)
    (l103 : K.lookup f103 = some ⟨oc103, od103, .func (PySem.W.fnOf r103.x r103.qual (defArgs r103.st) (defBody r103.st) (defScope r103.st) .none kV103 dc103 pm103 an103 cd103 ct103), sl103⟩)
    (c103_ : PySem.W.codeIn K cd103 r103.qual = true)
    (p103_ : PySem.W.keepIn K (.ref f103) = true)
    (l209 : K.lookup f209 = some ⟨oc209, od209, .func (PySem.W.fnOf r209.x r209.qual (defArgs r209.st) (defBody r209.st) (defScope r209.st) .none kV209 dc209 pm209 an209 cd209 ct209), sl209⟩)
    (c209_ : PySem.W.codeIn K cd209 r209.qual = true)
    (p209_ : PySem.W.keepIn K (.ref f209) = true)
    (l105 : K.lookup f105 = some ⟨oc105, od105, .func (PySem.W.fnOf r105.x r105.qual (defArgs r105.st) (defBody r105.st) (defScope r105.st) .none kV105 dc105 pm105 an105 cd105 ct105), sl105⟩)
    (c105_ : PySem.W.codeIn K cd105 r105.qual = true)
    (p105_ : PySem.W.keepIn K (.ref f105) = true)
    (l106 : K.lookup f106 = some ⟨oc106, od106, .func (PySem.W.fnOf r106.x r106.qual (defArgs r106.st) (defBody r106.st) (defScope r106.st) .none kV106 dc106 pm106 an106 cd106 ct106), sl106⟩)
    (c106_ : PySem.W.codeIn K cd106 r106.qual = true)
    (p106_ : PySem.W.keepIn K (.ref f106) = true)
    (l107 : K.lookup f107 = some ⟨oc107, od107, .func (PySem.W.fnOf r107.x r107.qual (defArgs r107.st) (defBody r107.st) (defScope r107.st) .none kV107 dc107 pm107 an107 cd107 ct107), sl107⟩)
    (c107_ : PySem.W.codeIn K cd107 r107.qual = true)
    (p107_ : PySem.W.keepIn K (.ref f107) = true)
    (l210 : K.lookup f210 = some ⟨oc210, od210, .func (PySem.W.fnOf r210.x r210.qual (defArgs r210.st) (defBody r210.st) (defScope r210.st) .none kV210 dc210 pm210 an210 cd210 ct210), sl210⟩)
    (c210_ : PySem.W.codeIn K cd210 r210.qual = true)
    (p210_ : PySem.W.keepIn K (.ref f210) = true)
    (l108 : K.lookup f108 = some ⟨oc108, od108, .func (PySem.W.fnOf r108.x r108.qual (defArgs r108.st) (defBody r108.st) (defScope r108.st) .none kV108 dc108 pm108 an108 cd108 ct108), sl108⟩)
    (c108_ : PySem.W.codeIn K cd108 r108.qual = true)
    (p108_ : PySem.W.keepIn K (.ref f108) = true)
    (l109 : K.lookup f109 = some ⟨oc109, od109, .func (PySem.W.fnOf r109.x r109.qual (defArgs r109.st) (defBody r109.st) (defScope r109.st) .none kV109 dc109 pm109 an109 cd109 ct109), sl109⟩)
    (c109_ : PySem.W.codeIn K cd109 r109.qual = true)
    (p109_ : PySem.W.keepIn K (.ref f109) = true)
    (l110 : K.lookup f110 = some ⟨oc110, od110, .func (PySem.W.fnOf r110.x r110.qual (defArgs r110.st) (defBody r110.st) (defScope r110.st) .none kV110 dc110 pm110 an110 cd110 ct110), sl110⟩)
    (c110_ : PySem.W.codeIn K cd110 r110.qual = true)
    (p110_ : PySem.W.keepIn K (.ref f110) = true)
    (l111 : K.lookup f111 = some ⟨oc111, od111, .func (PySem.W.fnOf r111.x r111.qual (defArgs r111.st) (defBody r111.st) (defScope r111.st) .none kV111 dc111 pm111 an111 cd111 ct111), sl111⟩)
    (c111_ : PySem.W.codeIn K cd111 r111.qual = true)
    (p111_ : PySem.W.keepIn K (.ref f111) = true)
    (l112 : K.lookup f112 = some ⟨oc112, od112, .func (PySem.W.fnOf r112.x r112.qual (defArgs r112.st) (defBody r112.st) (defScope r112.st) .none kV112 dc112 pm112 an112 cd112 ct112), sl112⟩)
    (c112_ : PySem.W.codeIn K cd112 r112.qual = true)
    (p112_ : PySem.W.keepIn K (.ref f112) = true)
    (l113 : K.lookup f113 = some ⟨oc113, od113, .func (PySem.W.fnOf r113.x r113.qual (defArgs r113.st) (defBody r113.st) (defScope r113.st) .none kV113 dc113 pm113 an113 cd113 ct113), sl113⟩)
    (c113_ : PySem.W.codeIn K cd113 r113.qual = true)
    (p113_ : PySem.W.keepIn K (.ref f113) = true)
    (l114 : K.lookup f114 = some ⟨oc114, od114, .func (PySem.W.fnOf r114.x r114.qual (defArgs r114.st) (defBody r114.st) (defScope r114.st) .none kV114 dc114 pm114 an114 cd114 ct114), sl114⟩)
    (c114_ : PySem.W.codeIn K cd114 r114.qual = true)
    (p114_ : PySem.W.keepIn K (.ref f114) = true)
    (l115 : K.lookup f115 = some ⟨oc115, od115, .func (PySem.W.fnOf r115.x r115.qual (defArgs r115.st) (defBody r115.st) (defScope r115.st) .none kV115 dc115 pm115 an115 cd115 ct115), sl115⟩)
    (c115_ : PySem.W.codeIn K cd115 r115.qual = true)
    (p115_ : PySem.W.keepIn K (.ref f115) = true)
    (l116 : K.lookup f116 = some ⟨oc116, od116, .func (PySem.W.fnOf r116.x r116.qual (defArgs r116.st) (defBody r116.st) (defScope r116.st) .none kV116 dc116 pm116 an116 cd116 ct116), sl116⟩)
    (c116_ : PySem.W.codeIn K cd116 r116.qual = true)
    (p116_ : PySem.W.keepIn K (.ref f116) = true)
    (l117 : K.lookup f117 = some ⟨oc117, od117, .func (PySem.W.fnOf r117.x r117.qual (defArgs r117.st) (defBody r117.st) (defScope r117.st) .none kV117 dc117 pm117 an117 cd117 ct117), sl117⟩)
    (c117_ : PySem.W.codeIn K cd117 r117.qual = true)
    (p117_ : PySem.W.keepIn K (.ref f117) = true)
    (l118 : K.lookup f118 = some ⟨oc118, od118, .func (PySem.W.fnOf r118.x r118.qual (defArgs r118.st) (defBody r118.st) (defScope r118.st) .none kV118 dc118 pm118 an118 cd118 ct118), sl118⟩)
    (c118_ : PySem.W.codeIn K cd118 r118.qual = true)
    (p118_ : PySem.W.keepIn K (.ref f118) = true)
    (l119 : K.lookup f119 = some ⟨oc119, od119, .func (PySem.W.fnOf r119.x r119.qual (defArgs r119.st) (defBody r119.st) (defScope r119.st) .none kV119 dc119 pm119 an119 cd119 ct119), sl119⟩)
    (c119_ : PySem.W.codeIn K cd119 r119.qual = true)
    (p119_ : PySem.W.keepIn K (.ref f119) = true)
    (l120 : K.lookup f120 = some ⟨oc120, od120, .func (PySem.W.fnOf r120.x r120.qual (defArgs r120.st) (defBody r120.st) (defScope r120.st) .none kV120 dc120 pm120 an120 cd120 ct120), sl120⟩)
    (c120_ : PySem.W.codeIn K cd120 r120.qual = true)
    (p120_ : PySem.W.keepIn K (.ref f120) = true)
    (l121 : K.lookup f121 = some ⟨oc121, od121, .func (PySem.W.fnOf r121.x r121.qual (defArgs r121.st) (defBody r121.st) (defScope r121.st) .none kV121 dc121 pm121 an121 cd121 ct121), sl121⟩)
    (c121_ : PySem.W.codeIn K cd121 r121.qual = true)
    (p121_ : PySem.W.keepIn K (.ref f121) = true)
    (l211 : K.lookup f211 = some ⟨oc211, od211, .func (PySem.W.fnOf r211.x r211.qual (defArgs r211.st) (defBody r211.st) (defScope r211.st) .none kV211 dc211 pm211 an211 cd211 ct211), sl211⟩)
    (c211_ : PySem.W.codeIn K cd211 r211.qual = true)
    (p211_ : PySem.W.keepIn K (.ref f211) = true)
    (l224 : K.lookup f224 = some ⟨oc224, od224, .func (PySem.W.fnOf r224.x r224.qual (defArgs r224.st) (defBody r224.st) (defScope r224.st) .none kV224 dc224 pm224 an224 cd224 ct224), sl224⟩)
    (c224_ : PySem.W.codeIn K cd224 r224.qual = true)
    (p224_ : PySem.W.keepIn K (.ref f224) = true)
    (l212 : K.lookup f212 = some ⟨oc212, od212, .func (PySem.W.fnOf r212.x r212.qual (defArgs r212.st) (defBody r212.st) (defScope r212.st) .none kV212 dc212 pm212 an212 cd212 ct212), sl212⟩)
    (c212_ : PySem.W.codeIn K cd212 r212.qual = true)
    (p212_ : PySem.W.keepIn K (.ref f212) = true)
    (l228 : K.lookup f228 = some ⟨oc228, od228, .func (PySem.W.fnOf r228.x r228.qual (defArgs r228.st) (defBody r228.st) (defScope r228.st) .none kV228 dc228 pm228 an228 cd228 ct228), sl228⟩)
    (c228_ : PySem.W.codeIn K cd228 r228.qual = true)
    (p228_ : PySem.W.keepIn K (.ref f228) = true)
    (l377 : K.lookup f377 = some ⟨oc377, od377, .func (PySem.W.fnOf r377.x r377.qual (defArgs r377.st) (defBody r377.st) (defScope r377.st) .none kV377 dc377 pm377 an377 cd377 ct377), sl377⟩)
    (c377_ : PySem.W.codeIn K cd377 r377.qual = true)
    (p377_ : PySem.W.keepIn K (.ref f377) = true)
    (l144 : K.lookup f144 = some ⟨oc144, od144, .func (PySem.W.fnOf r144.x r144.qual (defArgs r144.st) (defBody r144.st) (defScope r144.st) .none kV144 dc144 pm144 an144 cd144 ct144), sl144⟩)
    (c144_ : PySem.W.codeIn K cd144 r144.qual = true)
    (p144_ : PySem.W.keepIn K (.ref f144) = true)
    (g5 : PySem.W.plainGet K C5 Str.empty = true)
    (h5 : PySem.W.hasDictIn K C5 = true)
    (o5 : PySem.W.plainOver K C5 = true)
    (s5 : PySem.W.findIn K (.ref C5) "__setattr__" = some (some (.builtin "object.__setattr__")))
    (w5 : PySem.W.makesIn K C5 = true)
    (q5 : PySem.W.keepIn K (.ref C5) = true)
    (e0 : PySem.W.findIn K (.ref C5) "prime" = some none)
    : ∃ T : Txt, LawOk rows gk atts P K mg T ∧ mg "law" = some (.ref (T.fad 144)) := by
  refine ⟨mkT [(0, f0), (1, f1), (2, f2), (3, f3), (5, f5), (6, f6), (7, f7), (8, f8), (9, f9), (11, f11), (12, f12), (176, f176), (177, f177), (178, f178), (179, f179), (180, f180), (181, f181), (182, f182), (183, f183), (184, f184), (185, f185), (186, f186), (187, f187), (188, f188), (189, f189), (190, f190), (202, f202), (203, f203), (204, f204), (205, f205), (206, f206), (207, f207), (215, f215), (208, f208), (216, f216), (221, f221), (222, f222), (93, f93), (94, f94), (95, f95), (99, f99), (96, f96), (97, f97), (98, f98), (100, f100), (101, f101), (102, f102), (103, f103), (209, f209), (105, f105), (106, f106), (107, f107), (210, f210), (108, f108), (109, f109), (110, f110), (111, f111), (112, f112), (113, f113), (114, f114), (115, f115), (116, f116), (117, f117), (118, f118), (119, f119), (120, f120), (121, f121), (211, f211), (224, f224), (212, f212), (228, f228), (377, f377), (144, f144)] [(5, C5)] atts hatt, lawOk_of (fads := [(0, f0), (1, f1), (2, f2), (3, f3), (5, f5), (6, f6), (7, f7), (8, f8), (9, f9), (11, f11), (12, f12), (176, f176), (177, f177), (178, f178), (179, f179), (180, f180), (181, f181), (182, f182), (183, f183), (184, f184), (185, f185), (186, f186), (187, f187), (188, f188), (189, f189), (190, f190), (202, f202), (203, f203), (204, f204), (205, f205), (206, f206), (207, f207), (215, f215), (208, f208), (216, f216), (221, f221), (222, f222), (93, f93), (94, f94), (95, f95), (99, f99), (96, f96), (97, f97), (98, f98), (100, f100), (101, f101), (102, f102), (103, f103), (209, f209), (105, f105), (106, f106), (107, f107), (210, f210), (108, f108), (109, f109), (110, f110), (111, f111), (112, f112), (113, f113), (114, f114), (115, f115), (116, f116), (117, f117), (118, f118), (119, f119), (120, f120), (121, f121), (211, f211), (224, f224), (212, f212), (228, f228), (377, f377), (144, f144)]) (clss := [(5, C5)]) rfl hst hrows hbinds ?_ ?_ ?_ ?_ ?_, PySem.W.mg_of X G a144⟩
  · exact ⟨⟨_, fun_mk (st := r0.st) l0 c0_ p0_⟩, ⟨_, fun_mk (st := r1.st) l1 c1_ p1_⟩, ⟨_, fun_mk (st := r2.st) l2 c2_ p2_⟩, ⟨_, fun_mk (st := r3.st) l3 c3_ p3_⟩, ⟨_, fun_mk (st := r5.st) l5 c5_ p5_⟩, ⟨_, fun_mk (st := r6.st) l6 c6_ p6_⟩, ⟨_, fun_mk (st := r7.st) l7 c7_ p7_⟩, ⟨_, fun_mk (st := r8.st) l8 c8_ p8_⟩, ⟨_, fun_mk (st := r9.st) l9 c9_ p9_⟩, ⟨_, fun_mk (st := r11.st) l11 c11_ p11_⟩, ⟨_, fun_mk (st := r12.st) l12 c12_ p12_⟩, ⟨_, fun_mk (st := r176.st) l176 c176_ p176_⟩, ⟨_, fun_mk (st := r177.st) l177 c177_ p177_⟩, ⟨_, fun_mk (st := r178.st) l178 c178_ p178_⟩, ⟨_, fun_mk (st := r179.st) l179 c179_ p179_⟩, ⟨_, fun_mk (st := r180.st) l180 c180_ p180_⟩, ⟨_, fun_mk (st := r181.st) l181 c181_ p181_⟩, ⟨_, fun_mk (st := r182.st) l182 c182_ p182_⟩, ⟨_, fun_mk (st := r183.st) l183 c183_ p183_⟩, ⟨_, fun_mk (st := r184.st) l184 c184_ p184_⟩, ⟨_, fun_mk (st := r185.st) l185 c185_ p185_⟩, ⟨_, fun_mk (st := r186.st) l186 c186_ p186_⟩, ⟨_, fun_mk (st := r187.st) l187 c187_ p187_⟩, ⟨_, fun_mk (st := r188.st) l188 c188_ p188_⟩, ⟨_, fun_mk (st := r189.st) l189 c189_ p189_⟩, ⟨_, fun_mk (st := r190.st) l190 c190_ p190_⟩, ⟨_, fun_mk (st := r202.st) l202 c202_ p202_⟩, ⟨_, fun_mk (st := r203.st) l203 c203_ p203_⟩, ⟨_, fun_mk (st := r204.st) l204 c204_ p204_⟩, ⟨_, fun_mk (st := r205.st) l205 c205_ p205_⟩, ⟨_, fun_mk (st := r206.st) l206 c206_ p206_⟩, ⟨_, fun_mk (st := r207.st) l207 c207_ p207_⟩, ⟨_, fun_mk (st := r215.st) l215 c215_ p215_⟩, ⟨_, fun_mk (st := r208.st) l208 c208_ p208_⟩, ⟨_, fun_mk (st := r216.st) l216 c216_ p216_⟩, ⟨_, fun_mk (st := r221.st) l221 c221_ p221_⟩, ⟨_, fun_mk (st := r222.st) l222 c222_ p222_⟩, ⟨_, fun_mk (st := r93.st) l93 c93_ p93_⟩, ⟨_, fun_mk (st := r94.st) l94 c94_ p94_⟩, ⟨_, fun_mk (st := r95.st) l95 c95_ p95_⟩, ⟨_, fun_mk (st := r99.st) l99 c99_ p99_⟩, ⟨_, fun_mk (st := r96.st) l96 c96_ p96_⟩, ⟨_, fun_mk (st := r97.st) l97 c97_ p97_⟩, ⟨_, fun_mk (st := r98.st) l98 c98_ p98_⟩, ⟨_, fun_mk (st := r100.st) l100 c100_ p100_⟩, ⟨_, fun_mk (st := r101.st) l101 c101_ p101_⟩, ⟨_, fun_mk (st := r102.st) l102 c102_ p102_⟩, ⟨_, fun_mk (st := r103.st) l103 c103_ p103_⟩, ⟨_, fun_mk (st := r209.st) l209 c209_ p209_⟩, ⟨_, fun_mk (st := r105.st) l105 c105_ p105_⟩, ⟨_, fun_mk (st := r106.st) l106 c106_ p106_⟩, ⟨_, fun_mk (st := r107.st) l107 c107_ p107_⟩, ⟨_, fun_mk (st := r210.st) l210 c210_ p210_⟩, ⟨_, fun_mk (st := r108.st) l108 c108_ p108_⟩, ⟨_, fun_mk (st := r109.st) l109 c109_ p109_⟩, ⟨_, fun_mk (st := r110.st) l110 c110_ p110_⟩, ⟨_, fun_mk (st := r111.st) l111 c111_ p111_⟩, ⟨_, fun_mk (st := r112.st) l112 c112_ p112_⟩, ⟨_, fun_mk (st := r113.st) l113 c113_ p113_⟩, ⟨_, fun_mk (st := r114.st) l114 c114_ p114_⟩, ⟨_, fun_mk (st := r115.st) l115 c115_ p115_⟩, ⟨_, fun_mk (st := r116.st) l116 c116_ p116_⟩, ⟨_, fun_mk (st := r117.st) l117 c117_ p117_⟩, ⟨_, fun_mk (st := r118.st) l118 c118_ p118_⟩, ⟨_, fun_mk (st := r119.st) l119 c119_ p119_⟩, ⟨_, fun_mk (st := r120.st) l120 c120_ p120_⟩, ⟨_, fun_mk (st := r121.st) l121 c121_ p121_⟩, ⟨_, fun_mk (st := r211.st) l211 c211_ p211_⟩, ⟨_, fun_mk (st := r224.st) l224 c224_ p224_⟩, ⟨_, fun_mk (st := r212.st) l212 c212_ p212_⟩, ⟨_, fun_mk (st := r228.st) l228 c228_ p228_⟩, ⟨_, fun_mk (st := r377.st) l377 c377_ p377_⟩, ⟨_, fun_mk (st := r144.st) l144 c144_ p144_⟩, trivial⟩
  · exact ⟨PySem.W.mg_none_of X G z_len, PySem.W.mg_none_of X G z_tuple, PySem.W.mg_none_of X G z_list, PySem.W.mg_none_of X G z_enumerate, PySem.W.mg_of X G a1, PySem.W.mg_of X G a5, PySem.W.mg_of X G a6, PySem.W.mg_of X G a8, PySem.W.mg_of X G a3, PySem.W.mg_none_of X G z_range, PySem.W.mg_of X G a11, PySem.W.mg_of X G a0, PySem.W.mg_of X G a2, PySem.W.mg_of X G a7, PySem.W.mg_of X G a9, PySem.W.mg_of X G a12, PySem.W.mg_of X G a203, PySem.W.mg_of X G a202, PySem.W.mg_of X G a204, PySem.W.mg_of X G a206, PySem.W.mg_of X G a205, PySem.W.mg_of X G a208, PySem.W.mg_of X G a221, PySem.W.mg_none_of X G z_abs, PySem.W.mg_none_of X G z_int, PySem.W.mg_of X G a95, PySem.W.mg_none_of X G z_isinstance, PySem.W.mg_none_of X G z_bool, PySem.W.mg_none_of X G z_all, PySem.W.mg_of X G a98, PySem.W.mg_none_of X G z_str, PySem.W.mg_of X G a97, PySem.W.mg_of X G a100, PySem.W.mg_of X G a210, PySem.W.mg_of X G a211, PySem.W.mg_of X G a117, PySem.W.mg_of X G a112, PySem.W.mg_of X G a115, PySem.W.mg_of X G a114, PySem.W.mg_of X G a101, PySem.W.mg_of X G a102, PySem.W.mg_of X G a103, PySem.W.mg_of X G a108, PySem.W.mg_none_of X G z_max, PySem.W.mg_of X G a111, PySem.W.mg_of X G a105, PySem.W.mg_of X G a107, PySem.W.mg_of X G a113, PySem.W.mg_of X G a106, PySem.W.mg_of X G a110, PySem.W.mg_of X G a116, PySem.W.mg_of X G a118, PySem.W.mg_of X G a109, PySem.W.mg_of X G a119, PySem.W.mg_of X G a120, PySem.W.mg_of X G a94, PySem.W.mg_of X G a121, PySem.W.mg_of X G a224, PySem.W.mg_of X G k5, PySem.W.mg_of X G a96, PySem.W.mg_of X G a215, PySem.W.mg_of X G a222, PySem.W.mg_of X G a99, PySem.W.mg_of X G a216, PySem.W.mg_of X G a207, PySem.W.mg_of X G a209, PySem.W.mg_of X G a93, PySem.W.mg_of X G a212, PySem.W.mg_of X G a377, PySem.W.mg_of X G a228, trivial⟩
  · exact ⟨⟨⟨g5, h5, o5, s5⟩, ⟨m0, n177, p177_⟩⟩, ⟨⟨g5, h5, o5, s5⟩, ⟨m1, n178, p178_⟩⟩, ⟨⟨g5, h5, o5, s5⟩, ⟨m2, n179, p179_⟩⟩, ⟨⟨g5, h5, o5, s5⟩, ⟨m3, n180, p180_⟩⟩, ⟨⟨g5, h5, o5, s5⟩, ⟨m4, n181, p181_⟩⟩, ⟨⟨g5, h5, o5, s5⟩, ⟨m5, n182, p182_⟩⟩, ⟨⟨g5, h5, o5, s5⟩, ⟨m6, n183, p183_⟩⟩, ⟨⟨g5, h5, o5, s5⟩, ⟨m7, n184, p184_⟩⟩, ⟨⟨g5, h5, o5, s5⟩, ⟨m8, n185, p185_⟩⟩, ⟨⟨g5, h5, o5, s5⟩, ⟨m9, n186, p186_⟩⟩, ⟨⟨g5, h5, o5, s5⟩, ⟨m10, n187, p187_⟩⟩, ⟨⟨g5, h5, o5, s5⟩, ⟨m11, n188, p188_⟩⟩, ⟨⟨g5, h5, o5, s5⟩, ⟨m12, n189, p189_⟩⟩, ⟨⟨g5, h5, o5, s5⟩, ⟨m13, n190, p190_⟩⟩, trivial⟩
  · exact ⟨⟨w5, i5, n176, q5⟩, trivial⟩
  · exact ⟨⟨⟨g5, h5, o5, s5⟩, e0⟩, trivial⟩
end Lk97
namespace Lk97
open PySem RG
abbrev depth : Nat := 13
theorem k97 : K97 P where
  pf := ⟨rfl, rfl, rfl, rfl, rfl, rfl, rfl, rfl, rfl, rfl, p178, p179, p180, p181, p182, p183, p184, p185, p187⟩
  po := ⟨p1, p2, p3, p5, p6, p7, p8, p9, p11, p12⟩
  ch := ⟨p202, p203, p204, p205, p206, p207⟩
  dr := ⟨p94, ⟨p105, p106, p107, p108, p109, p110, p210⟩, ⟨p111, p112, p113, p114, p115, p116, p117, p118, p119⟩, p120, p121⟩
  vl := ⟨p95, p96, p97, p98, p99⟩
  i5 := rfl
  m8 := rfl
  m19 := rfl
  f176 := p176
  f186 := p186
  f188 := p188
  f208 := p208
  f215 := p215
  f216 := p216
  f221 := p221
  f222 := p222
  f209 := p209
  f211 := p211
  f224 := p224
  f212 := p212
  f228 := p228
  f377 := p377
  f93 := p93
theorem hlaw : ∀ ns : List Int, ns.length ≤ 63 → (∀ z ∈ ns, Builtin.Int.intBits z ≤ 1048576) → ∃ S, callF P (depth + 1) 144 [.scr (ns.map D.int)] [] = some (.ok (.bl true) S) := law_k97 k97 p144
end Lk97
open PySem PySem.W PyProof.Rows in
set_option maxRecDepth 100000 in
set_option maxHeartbeats 0 in
theorem PySem.Challenge.cw_rootgraph_k97_whole_one_root_and_the_cha_holds : PySem.Challenge.rw_rootgraph_k97_whole_one_root_and_the_cha.Holds := by
  w_on; o_law; k_head; (case hw => w_witness2)
  k_fill
  refine RG.walk_law (l := PySem.Challenge.rw_rootgraph_k97_whole_one_root_and_the_cha) (rows := Lk97.rows) (gk := Lk97.gk) (att := RG.atts) (mt := Lk97.mt) (it := Lk97.it) (fl := Lk97.fl) (d := Lk97.depth) (f := 144) (R := Lk97.r144) rfl rfl ⟨rfl, by decide +kernel, by decide +kernel⟩ (fun w h Y => PySem.W.kIn_of Y) rfl (by decide +kernel) Lk97.d144 Lk97.hlaw ?F
  case F =>
    intro w mg h KX G
    refine' Lk97.all_mk KX G ?a0 ?a1 ?a2 ?a3 ?a5 ?a6 ?a7 ?a8 ?a9 ?a11 ?a12 ?a202 ?a203 ?a204 ?a205 ?a206 ?a207 ?a215 ?a208 ?a216 ?a221 ?a222 ?a93 ?a94 ?a95 ?a99 ?a96 ?a97 ?a98 ?a100 ?a101 ?a102 ?a103 ?a209 ?a105 ?a106 ?a107 ?a210 ?a108 ?a109 ?a110 ?a111 ?a112 ?a113 ?a114 ?a115 ?a116 ?a117 ?a118 ?a119 ?a120 ?a121 ?a211 ?a224 ?a212 ?a228 ?a377 ?a144 ?k5 ?z_len ?z_tuple ?z_list ?z_enumerate ?z_range ?z_abs ?z_int ?z_isinstance ?z_bool ?z_all ?z_str ?z_max ?i5 ?m0 ?m1 ?m2 ?m3 ?m4 ?m5 ?m6 ?m7 ?m8 ?m9 ?m10 ?m11 ?m12 ?m13 ?n176 ?n177 ?n178 ?n179 ?n180 ?n181 ?n182 ?n183 ?n184 ?n185 ?n186 ?n187 ?n188 ?n189 ?n190 ?l0 ?c0_ ?p0_ ?l1 ?c1_ ?p1_ ?l2 ?c2_ ?p2_ ?l3 ?c3_ ?p3_ ?l5 ?c5_ ?p5_ ?l6 ?c6_ ?p6_ ?l7 ?c7_ ?p7_ ?l8 ?c8_ ?p8_ ?l9 ?c9_ ?p9_ ?l11 ?c11_ ?p11_ ?l12 ?c12_ ?p12_ ?l176 ?c176_ ?p176_ ?l177 ?c177_ ?p177_ ?l178 ?c178_ ?p178_ ?l179 ?c179_ ?p179_ ?l180 ?c180_ ?p180_ ?l181 ?c181_ ?p181_ ?l182 ?c182_ ?p182_ ?l183 ?c183_ ?p183_ ?l184 ?c184_ ?p184_ ?l185 ?c185_ ?p185_ ?l186 ?c186_ ?p186_ ?l187 ?c187_ ?p187_ ?l188 ?c188_ ?p188_ ?l189 ?c189_ ?p189_ ?l190 ?c190_ ?p190_ ?l202 ?c202_ ?p202_ ?l203 ?c203_ ?p203_ ?l204 ?c204_ ?p204_ ?l205 ?c205_ ?p205_ ?l206 ?c206_ ?p206_ ?l207 ?c207_ ?p207_ ?l215 ?c215_ ?p215_ ?l208 ?c208_ ?p208_ ?l216 ?c216_ ?p216_ ?l221 ?c221_ ?p221_ ?l222 ?c222_ ?p222_ ?l93 ?c93_ ?p93_ ?l94 ?c94_ ?p94_ ?l95 ?c95_ ?p95_ ?l99 ?c99_ ?p99_ ?l96 ?c96_ ?p96_ ?l97 ?c97_ ?p97_ ?l98 ?c98_ ?p98_ ?l100 ?c100_ ?p100_ ?l101 ?c101_ ?p101_ ?l102 ?c102_ ?p102_ ?l103 ?c103_ ?p103_ ?l209 ?c209_ ?p209_ ?l105 ?c105_ ?p105_ ?l106 ?c106_ ?p106_ ?l107 ?c107_ ?p107_ ?l210 ?c210_ ?p210_ ?l108 ?c108_ ?p108_ ?l109 ?c109_ ?p109_ ?l110 ?c110_ ?p110_ ?l111 ?c111_ ?p111_ ?l112 ?c112_ ?p112_ ?l113 ?c113_ ?p113_ ?l114 ?c114_ ?p114_ ?l115 ?c115_ ?p115_ ?l116 ?c116_ ?p116_ ?l117 ?c117_ ?p117_ ?l118 ?c118_ ?p118_ ?l119 ?c119_ ?p119_ ?l120 ?c120_ ?p120_ ?l121 ?c121_ ?p121_ ?l211 ?c211_ ?p211_ ?l224 ?c224_ ?p224_ ?l212 ?c212_ ?p212_ ?l228 ?c228_ ?p228_ ?l377 ?c377_ ?p377_ ?l144 ?c144_ ?p144_ ?g5 ?h5 ?o5 ?s5 ?w5 ?q5 ?e0
    (case a0 => k_is)
    (case a1 => k_is)
    (case a2 => k_is)
    (case a3 => k_is)
    (case a5 => k_is)
    (case a6 => k_is)
    (case a7 => k_is)
    (case a8 => k_is)
    (case a9 => k_is)
    (case a11 => k_is)
    (case a12 => k_is)
    (case a202 => k_is)
    (case a203 => k_is)
    (case a204 => k_is)
    (case a205 => k_is)
    (case a206 => k_is)
    (case a207 => k_is)
    (case a215 => k_is)
    (case a208 => k_is)
    (case a216 => k_is)
    (case a221 => k_is)
    (case a222 => k_is)
    (case a93 => k_is)
    (case a94 => k_is)
    (case a95 => k_is)
    (case a99 => k_is)
    (case a96 => k_is)
    (case a97 => k_is)
    (case a98 => k_is)
    (case a100 => k_is)
    (case a101 => k_is)
    (case a102 => k_is)
    (case a103 => k_is)
    (case a209 => k_is)
    (case a105 => k_is)
    (case a106 => k_is)
    (case a107 => k_is)
    (case a210 => k_is)
    (case a108 => k_is)
    (case a109 => k_is)
    (case a110 => k_is)
    (case a111 => k_is)
    (case a112 => k_is)
    (case a113 => k_is)
    (case a114 => k_is)
    (case a115 => k_is)
    (case a116 => k_is)
    (case a117 => k_is)
    (case a118 => k_is)
    (case a119 => k_is)
    (case a120 => k_is)
    (case a121 => k_is)
    (case a211 => k_is)
    (case a224 => k_is)
    (case a212 => k_is)
    (case a228 => k_is)
    (case a377 => k_is)
    (case a144 => k_is)
    (case k5 => k_is)
    (case z_len => k_is)
    (case z_tuple => k_is)
    (case z_list => k_is)
    (case z_enumerate => k_is)
    (case z_range => k_is)
    (case z_abs => k_is)
    (case z_int => k_is)
    (case z_isinstance => k_is)
    (case z_bool => k_is)
    (case z_all => k_is)
    (case z_str => k_is)
    (case z_max => k_is)
    (case i5 => k_is)
    (case m0 => k_is)
    (case m1 => k_is)
    (case m2 => k_is)
    (case m3 => k_is)
    (case m4 => k_is)
    (case m5 => k_is)
    (case m6 => k_is)
    (case m7 => k_is)
    (case m8 => k_is)
    (case m9 => k_is)
    (case m10 => k_is)
    (case m11 => k_is)
    (case m12 => k_is)
    (case m13 => k_is)
    (case n176 => k_is)
    (case n177 => k_is)
    (case n178 => k_is)
    (case n179 => k_is)
    (case n180 => k_is)
    (case n181 => k_is)
    (case n182 => k_is)
    (case n183 => k_is)
    (case n184 => k_is)
    (case n185 => k_is)
    (case n186 => k_is)
    (case n187 => k_is)
    (case n188 => k_is)
    (case n189 => k_is)
    (case n190 => k_is)
    (case l0 => k_is)
    (case c0_ => k_is)
    (case p0_ => k_is)
    (case l1 => k_is)
    (case c1_ => k_is)
    (case p1_ => k_is)
    (case l2 => k_is)
    (case c2_ => k_is)
    (case p2_ => k_is)
    (case l3 => k_is)
    (case c3_ => k_is)
    (case p3_ => k_is)
    (case l5 => k_is)
    (case c5_ => k_is)
    (case p5_ => k_is)
    (case l6 => k_is)
    (case c6_ => k_is)
    (case p6_ => k_is)
    (case l7 => k_is)
    (case c7_ => k_is)
    (case p7_ => k_is)
    (case l8 => k_is)
    (case c8_ => k_is)
    (case p8_ => k_is)
    (case l9 => k_is)
    (case c9_ => k_is)
    (case p9_ => k_is)
    (case l11 => k_is)
    (case c11_ => k_is)
    (case p11_ => k_is)
    (case l12 => k_is)
    (case c12_ => k_is)
    (case p12_ => k_is)
    (case l176 => k_is)
    (case c176_ => k_is)
    (case p176_ => k_is)
    (case l177 => k_is)
    (case c177_ => k_is)
    (case p177_ => k_is)
    (case l178 => k_is)
    (case c178_ => k_is)
    (case p178_ => k_is)
    (case l179 => k_is)
    (case c179_ => k_is)
    (case p179_ => k_is)
    (case l180 => k_is)
    (case c180_ => k_is)
    (case p180_ => k_is)
    (case l181 => k_is)
    (case c181_ => k_is)
    (case p181_ => k_is)
    (case l182 => k_is)
    (case c182_ => k_is)
    (case p182_ => k_is)
    (case l183 => k_is)
    (case c183_ => k_is)
    (case p183_ => k_is)
    (case l184 => k_is)
    (case c184_ => k_is)
    (case p184_ => k_is)
    (case l185 => k_is)
    (case c185_ => k_is)
    (case p185_ => k_is)
    (case l186 => k_is)
    (case c186_ => k_is)
    (case p186_ => k_is)
    (case l187 => k_is)
    (case c187_ => k_is)
    (case p187_ => k_is)
    (case l188 => k_is)
    (case c188_ => k_is)
    (case p188_ => k_is)
    (case l189 => k_is)
    (case c189_ => k_is)
    (case p189_ => k_is)
    (case l190 => k_is)
    (case c190_ => k_is)
    (case p190_ => k_is)
    (case l202 => k_is)
    (case c202_ => k_is)
    (case p202_ => k_is)
    (case l203 => k_is)
    (case c203_ => k_is)
    (case p203_ => k_is)
    (case l204 => k_is)
    (case c204_ => k_is)
    (case p204_ => k_is)
    (case l205 => k_is)
    (case c205_ => k_is)
    (case p205_ => k_is)
    (case l206 => k_is)
    (case c206_ => k_is)
    (case p206_ => k_is)
    (case l207 => k_is)
    (case c207_ => k_is)
    (case p207_ => k_is)
    (case l215 => k_is)
    (case c215_ => k_is)
    (case p215_ => k_is)
    (case l208 => k_is)
    (case c208_ => k_is)
    (case p208_ => k_is)
    (case l216 => k_is)
    (case c216_ => k_is)
    (case p216_ => k_is)
    (case l221 => k_is)
    (case c221_ => k_is)
    (case p221_ => k_is)
    (case l222 => k_is)
    (case c222_ => k_is)
    (case p222_ => k_is)
    (case l93 => k_is)
    (case c93_ => k_is)
    (case p93_ => k_is)
    (case l94 => k_is)
    (case c94_ => k_is)
    (case p94_ => k_is)
    (case l95 => k_is)
    (case c95_ => k_is)
    (case p95_ => k_is)
    (case l99 => k_is)
    (case c99_ => k_is)
    (case p99_ => k_is)
    (case l96 => k_is)
    (case c96_ => k_is)
    (case p96_ => k_is)
    (case l97 => k_is)
    (case c97_ => k_is)
    (case p97_ => k_is)
    (case l98 => k_is)
    (case c98_ => k_is)
    (case p98_ => k_is)
    (case l100 => k_is)
    (case c100_ => k_is)
    (case p100_ => k_is)
    (case l101 => k_is)
    (case c101_ => k_is)
    (case p101_ => k_is)
    (case l102 => k_is)
    (case c102_ => k_is)
    (case p102_ => k_is)
    (case l103 => k_is)
    (case c103_ => k_is)
    (case p103_ => k_is)
    (case l209 => k_is)
    (case c209_ => k_is)
    (case p209_ => k_is)
    (case l105 => k_is)
    (case c105_ => k_is)
    (case p105_ => k_is)
    (case l106 => k_is)
    (case c106_ => k_is)
    (case p106_ => k_is)
    (case l107 => k_is)
    (case c107_ => k_is)
    (case p107_ => k_is)
    (case l210 => k_is)
    (case c210_ => k_is)
    (case p210_ => k_is)
    (case l108 => k_is)
    (case c108_ => k_is)
    (case p108_ => k_is)
    (case l109 => k_is)
    (case c109_ => k_is)
    (case p109_ => k_is)
    (case l110 => k_is)
    (case c110_ => k_is)
    (case p110_ => k_is)
    (case l111 => k_is)
    (case c111_ => k_is)
    (case p111_ => k_is)
    (case l112 => k_is)
    (case c112_ => k_is)
    (case p112_ => k_is)
    (case l113 => k_is)
    (case c113_ => k_is)
    (case p113_ => k_is)
    (case l114 => k_is)
    (case c114_ => k_is)
    (case p114_ => k_is)
    (case l115 => k_is)
    (case c115_ => k_is)
    (case p115_ => k_is)
    (case l116 => k_is)
    (case c116_ => k_is)
    (case p116_ => k_is)
    (case l117 => k_is)
    (case c117_ => k_is)
    (case p117_ => k_is)
    (case l118 => k_is)
    (case c118_ => k_is)
    (case p118_ => k_is)
    (case l119 => k_is)
    (case c119_ => k_is)
    (case p119_ => k_is)
    (case l120 => k_is)
    (case c120_ => k_is)
    (case p120_ => k_is)
    (case l121 => k_is)
    (case c121_ => k_is)
    (case p121_ => k_is)
    (case l211 => k_is)
    (case c211_ => k_is)
    (case p211_ => k_is)
    (case l224 => k_is)
    (case c224_ => k_is)
    (case p224_ => k_is)
    (case l212 => k_is)
    (case c212_ => k_is)
    (case p212_ => k_is)
    (case l228 => k_is)
    (case c228_ => k_is)
    (case p228_ => k_is)
    (case l377 => k_is)
    (case c377_ => k_is)
    (case p377_ => k_is)
    (case l144 => k_is)
    (case c144_ => k_is)
    (case p144_ => k_is)
    (case g5 => k_is)
    (case h5 => k_is)
    (case o5 => k_is)
    (case s5 => k_is)
    (case w5 => k_is)
    (case q5 => k_is)
    (case e0 => k_is)
