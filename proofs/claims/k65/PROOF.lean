import PyProof.Rows.All
import Wide.All
import OpenK.AllK
import Wide.FinOn
import HandS.ForMost
import HandS.Wide
import HandS.IsInst
import HandS.TupAny
import HandS.TupLe
import HandS.Conv
import HandS.TupMul
import HandS.Zip
import HandS.Walk
import HandS.Exc
import HandS.ExcOwn
import HandS.TryOnly
import HandS.Defaults
import KE.GoesMore
import KE.GoesEnum
import HandS.WordsExc
import KE.KStateDown
import HandS.Head0
import HandS.Head1
import HandS.Head2
import HandS.HeadEnd
import HandS.HeadHook1
import HandS.HeadHook2
import PySem.Challenge.RW_sharetrail_k65_whole_alone_and_together
set_option Elab.async false
set_option linter.all false
set_option maxRecDepth 100000
namespace VM
open PySem L2

/-! values without addresses of tuples; lists stand in a heap of our own -/
inductive D where
  | non | bl (b : Bool) | int (i : Int) | str (s : Str) | tup (ds : List D) | ref (i : Nat)
  deriving Inhabited
mutual
def D.eqb : D → D → Bool
  | .non, .non => true
  | .bl a, .bl b => a == b
  | .int a, .int b => a == b
  | .str a, .str b => a == b
  | .tup a, .tup b => D.eqbs a b
  | .ref a, .ref b => a == b
  | _, _ => false
def D.eqbs : List D → List D → Bool
  | [], [] => true
  | x :: xs, y :: ys => D.eqb x y && D.eqbs xs ys
  | _, _ => false
end
mutual
theorem D.eqb_iff : ∀ (a b : D), D.eqb a b = true ↔ a = b
  | .non, b => by cases b <;> simp [D.eqb]
  | .bl x, b => by cases b <;> simp [D.eqb]
  | .int x, b => by cases b <;> simp [D.eqb]
  | .str x, b => by cases b <;> simp [D.eqb]
  | .ref x, b => by cases b <;> simp [D.eqb]
  | .tup x, b => by
    cases b with
    | tup y => simp only [D.eqb, D.tup.injEq]; exact D.eqbs_iff x y
    | _ => simp [D.eqb]
theorem D.eqbs_iff : ∀ (a b : List D), D.eqbs a b = true ↔ a = b
  | [], b => by cases b <;> simp [D.eqbs]
  | x :: xs, b => by
    cases b with
    | nil => simp [D.eqbs]
    | cons y ys => simp only [D.eqbs, Bool.and_eq_true, List.cons.injEq]; rw [D.eqb_iff x y, D.eqbs_iff xs ys]
end
instance : DecidableEq D := fun a b => decidable_of_iff _ (D.eqb_iff a b)
mutual
/-- no list within -/
def D.gr : D → Bool
  | .ref _ => false
  | .tup ds => D.grs ds
  | _ => true
def D.grs : List D → Bool
  | [] => true
  | d :: ds => D.gr d && D.grs ds
end
inductive Ob where
  | lst (ds : List D)
  | ro (ds : List D)
  deriving Inhabited, DecidableEq
def Ob.gr : Ob → Bool
  | .lst ds => D.grs ds
  | .ro ds => D.grs ds
abbrev Hv := List Ob
inductive R (α : Type) where
  | ok (a : α) (h : Hv) | exc (c : Str) (d : D) (h : Hv) | stuck
def R.bind {α β : Type} (r : R α) (f : α → Hv → R β) : R β := match r with
  | .ok a h => f a h
  | .exc c d h => .exc c d h
  | .stuck => .stuck
abbrev Env := List (Option D)
abbrev Or := Str → List D → Hv → R D
abbrev EF := Or → Env → Hv → R D
abbrev TF := D → Env → Hv → Option Env
inductive SR where
  | nx (e : Env) (h : Hv) | rt (d : D) (h : Hv) | bk (e : Env) (h : Hv) | ct (e : Env) (h : Hv) | exc (c : Str) (d : D) (e : Env) (h : Hv) | stuck
abbrev SF := Or → Env → Hv → SR
abbrev Guards := List (Nat × List D)
abbrev IF := Or → Env → Hv → R (List D × Guards)
def R.thenS (r : R D) (e : Env) (f : D → Hv → SR) : SR := match r with
  | .ok a h => f a h
  | .exc c d h => .exc c d e h
  | .stuck => .stuck

def szl : Nat := 1000000
def big64 : Nat := 2 ^ 64
def bigM : Nat := 2 ^ 400000
def bigD : Nat := 2 ^ 8900

/-! expressions -/
def varF (i : Nat) : EF := fun _ env h => match env[i]? with
  | some (some d) => .ok d h
  | _ => .stuck
def conF (d : D) : EF := fun _ _ h => .ok d h
def un1F (op : D → Hv → R D) (a : EF) : EF := fun C env h => (a C env h).bind op
def binF (op : D → D → Hv → R D) (a b : EF) : EF := fun C env h => (a C env h).bind fun x h1 => (b C env h1).bind fun y h2 => op x y h2
def andF (a b : EF) : EF := fun C env h => (a C env h).bind fun x h1 => match x with
  | .bl true => b C env h1
  | .bl false => .ok (.bl false) h1
  | _ => .stuck
def orF (a b : EF) : EF := fun C env h => (a C env h).bind fun x h1 => match x with
  | .bl true => .ok (.bl true) h1
  | .bl false => b C env h1
  | _ => .stuck
def chainF (op op' : D → D → Hv → R D) (a b c : EF) : EF := fun C env h => (a C env h).bind fun x h1 => (b C env h1).bind fun y h2 => (op x y h2).bind fun z h3 => match z with
  | .bl true => (c C env h3).bind fun w h4 => op' y w h4
  | .bl false => .ok (.bl false) h3
  | _ => .stuck
def iteF (c a b : EF) : EF := fun C env h => (c C env h).bind fun x h1 => match x with
  | .bl true => a C env h1
  | .bl false => b C env h1
  | _ => .stuck
def listF : List EF → Or → Env → Hv → R (List D)
  | [], _, _, h => .ok [] h
  | e :: es, C, env, h => (e C env h).bind fun x h1 => (listF es C env h1).bind fun xs h2 => .ok (x :: xs) h2
def tupF (es : List EF) : EF := fun C env h => (listF es C env h).bind fun ds h1 => if ds.length ≤ szl then .ok (.tup ds) h1 else .stuck
def lstF (es : List EF) : EF := fun C env h => (listF es C env h).bind fun ds h1 => if ds.length ≤ szl then .ok (.ref h1.length) (h1 ++ [.lst ds]) else .stuck
def callF (f : Str) (es : List EF) : EF := fun C env h => (listF es C env h).bind fun ds h1 => C f ds h1
def bltF (g : List D → Hv → R D) (es : List EF) : EF := fun C env h => (listF es C env h).bind g
def optF : Option EF → Or → Env → Hv → R (Option Int)
  | none, _, _, h => .ok none h
  | some e, C, env, h => (e C env h).bind fun x h1 => match x with
    | .int i => .ok (some i) h1
    | _ => .stuck
def slcF (op : D → Option Int → Option Int → Hv → R D) (a : EF) (lo hi : Option EF) : EF := fun C env h => (a C env h).bind fun x h1 => (optF lo C env h1).bind fun l h2 => (optF hi C env h2).bind fun u h3 => op x l u h3
def wipeD (env : Env) : List Nat → Env
  | [] => env
  | v :: vs => (wipeD env vs).set v none
def guardsOk (gs : Guards) (h : Hv) : Bool := gs.all fun g => decide (h[g.1]? = some (.lst g.2) ∨ h[g.1]? = some (.ro g.2))
/-- [elt for tg in items if t]: the new list stands at n -/
def lcLoop (C : Or) (env : Env) (tg : TF) (t : EF) (elt : EF) (gs : Guards) (n : Nat) : List D → Hv → R Unit
  | [], h => if guardsOk gs h then .ok () h else .stuck
  | x :: xs, h => if guardsOk gs h then (match tg x env h with
    | some env1 => (t C env1 h).bind fun b h1 => match b with
      | .bl true => (elt C env1 h1).bind fun y h2 => (match h2[n]? with
        | some (.lst acc) => if acc.length < szl then lcLoop C env tg t elt gs n xs (h2.set n (.lst (acc ++ [y]))) else .stuck
        | _ => .stuck)
      | .bl false => lcLoop C env tg t elt gs n xs h1
      | _ => .stuck
    | none => .stuck) else .stuck
def R.noexc {α : Type} : R α → R α
  | .exc _ _ _ => .stuck
  | r => r
def lcF (it : IF) (tg : TF) (own : List Nat) (t elt : EF) : EF := fun C env h => (it C env h).bind fun z h1 =>
  ((lcLoop C (wipeD env own) tg t elt z.2 h1.length z.1 (h1 ++ [.lst []])).noexc).bind fun _ h2 => .ok (.ref h1.length) h2

/-! what is walked -/
def seqOf (d : D) (h : Hv) : Option (List D × Guards) := match d with
  | .tup ds => some (ds, [])
  | .ref i => (match h[i]? with
    | some (.lst ds) => some (ds, [(i, ds)])
    | some (.ro ds) => some (ds, [(i, ds)])
    | none => none)
  | _ => none
def itE (e : EF) : IF := fun C env h => (e C env h).bind fun x h1 => match seqOf x h1 with
  | some z => .ok z h1
  | none => .stuck
def rng (lo : Int) (n : Nat) : List D := (List.range n).map fun i => .int (lo + (i : Nat))
def it1F (e : EF) : IF := fun C env h => (e C env h).bind fun x h1 => match x with
  | .int j => if -(2 ^ 60) ≤ j ∧ j ≤ 2 ^ 60 then .ok (rng 0 j.toNat, []) h1 else .stuck
  | _ => .stuck
def it2F (a b : EF) : IF := fun C env h => (a C env h).bind fun x h1 => (b C env h1).bind fun y h2 => match x, y with
  | .int i, .int j => if (-(2 ^ 60) ≤ i ∧ i ≤ 2 ^ 60) ∧ -(2 ^ 60) ≤ j ∧ j ≤ 2 ^ 60 then .ok (rng i (j - i).toNat, []) h2 else .stuck
  | _, _ => .stuck
def zipD : List D → List D → List D
  | x :: xs, y :: ys => .tup [x, y] :: zipD xs ys
  | _, _ => []
def enumD : Nat → List D → List D
  | _, [] => []
  | i, x :: xs => .tup [.int (i : Nat), x] :: enumD (i + 1) xs
def itZ (a b : EF) : IF := fun C env h => (a C env h).bind fun x h1 => (b C env h1).bind fun y h2 => match seqOf x h2, seqOf y h2 with
  | some z, some w => .ok (zipD z.1 w.1, z.2 ++ w.2) h2
  | _, _ => .stuck
def itN (a : EF) : IF := fun C env h => (a C env h).bind fun x h1 => match seqOf x h1 with
  | some z => .ok (enumD 0 z.1, z.2) h1
  | none => .stuck

/-! targets -/
def nmT (i : Nat) : TF := fun d env _ => if i < env.length then some (env.set i (some d)) else none
def tgsT : List TF → List D → Env → Hv → Option Env
  | [], [], env, _ => some env
  | t :: ts, d :: ds, env, h => match t d env h with
    | some env1 => tgsT ts ds env1 h
    | none => none
  | _, _, _, _ => none
def tupT (ts : List TF) : TF := fun d env h => match d with
  | .tup ds => tgsT ts ds env h
  | .ref i => (match h[i]? with
    | some (.lst ds) => tgsT ts ds env h
    | _ => none)
  | _ => none

/-! statements -/
def nxS : SF := fun _ env h => .nx env h
def bkS : SF := fun _ env h => .bk env h
def ctS : SF := fun _ env h => .ct env h
def seqS (a b : SF) : SF := fun C env h => match a C env h with
  | .nx env1 h1 => b C env1 h1
  | r => r
def expS (e : EF) : SF := fun C env h => (e C env h).thenS env fun _ h1 => .nx env h1
def asgS (t : TF) (e : EF) : SF := fun C env h => (e C env h).thenS env fun d h1 => match t d env h1 with
  | some env1 => .nx env1 h1
  | none => .stuck
/-- o[i] = e -/
def setL (o i d : D) (h : Hv) : Option Hv := match o, i with
  | .ref p, .int k => (match h[p]? with
    | some (.lst ds) => (match ixN ds.length k with
      | some j => some (h.set p (.lst (ds.set j d)))
      | none => none)
    | _ => none)
  | _, _ => none
def setS (o i e : EF) : SF := fun C env h => (e C env h).thenS env fun d h1 => (o C env h1).thenS env fun x h2 => (i C env h2).thenS env fun k h3 => match setL x k d h3 with
  | some h4 => .nx env h4
  | none => .stuck
/-- a, b = x, y (plain local names) -/
def parS (i j : Nat) (a b : EF) : SF := fun C env h => (a C env h).thenS env fun x h1 => (b C env h1).thenS env fun y h2 => if i < env.length ∧ j < env.length then .nx ((env.set i (some x)).set j (some y)) h2 else .stuck
def retS (e : EF) : SF := fun C env h => (e C env h).thenS env fun d h1 => .rt d h1
def retN : SF := fun _ _ h => .rt .non h
def ifS (c : EF) (a b : SF) : SF := fun C env h => (c C env h).thenS env fun x h1 => match x with
  | .bl true => a C env h1
  | .bl false => b C env h1
  | _ => .stuck
def forL (C : Or) (tg : TF) (body : SF) (gs : Guards) : List D → Env → Hv → SR
  | [], env, h => if guardsOk gs h then .nx env h else .stuck
  | x :: xs, env, h => if guardsOk gs h then (match tg x env h with
    | some env1 => (match body C env1 h with
      | .nx env2 h2 => forL C tg body gs xs env2 h2
      | .ct env2 h2 => forL C tg body gs xs env2 h2
      | .bk env2 h2 => .nx env2 h2
      | r => r)
    | none => .stuck) else .stuck
def R.thenI (r : R (List D × Guards)) (e : Env) (f : List D × Guards → Hv → SR) : SR := match r with
  | .ok a h => f a h
  | .exc c d h => .exc c d e h
  | .stuck => .stuck
def forS (it : IF) (tg : TF) (body : SF) : SF := fun C env h => (it C env h).thenI env fun z h1 => forL C tg body z.2 z.1 env h1
def whileL (C : Or) (c : EF) (body : SF) : Nat → Env → Hv → SR
  | 0, _, _ => .stuck
  | n + 1, env, h => (c C env h).thenS env fun x h1 => match x with
    | .bl true => (match body C env h1 with
      | .nx env2 h2 => whileL C c body n env2 h2
      | .ct env2 h2 => whileL C c body n env2 h2
      | .bk env2 h2 => .nx env2 h2
      | r => r)
    | .bl false => .nx env h1
    | _ => .stuck
def wfuel : Nat := 1000000
def whileS (c : EF) (body : SF) : SF := fun C env h => whileL C c body wfuel env h
def raiS (c : Str) (e : EF) : SF := fun C env h => (e C env h).thenS env fun d h1 => .exc c d env h1

/-! defs -/
structure FnRec where
  np : Nat
  nl : Nat
  body : SF
/-- what a def has made and no one can see any more is forgotten -/
def sameOrGr (h h' : Hv) : Bool := (List.range h.length).all fun i => decide (h'[i]? = h[i]?) || (match h'[i]? with
  | some o => o.gr
  | none => false)
def gc (h : Hv) (d : D) (h' : Hv) : R D :=
  if h.length ≤ h'.length ∧ sameOrGr h h' = true then
    (if d.gr then .ok d (h'.take h.length) else match d with
      | .ref i => (match h'[i]? with
        | some (.lst ds) => if h.length ≤ i ∧ D.grs ds = true then .ok (.ref h.length) (h'.take h.length ++ [.lst ds]) else .ok d h'
        | _ => .ok d h')
      | _ => .ok d h')
  else .ok d h'
def runFn (r : FnRec) (C : Or) (args : List D) (h : Hv) : R D :=
  if args.length = r.np then (match r.body C (args.map some ++ List.replicate (r.nl - r.np) none) h with
    | .nx _ h' => gc h .non h'
    | .rt d h' => gc h d h'
    | .exc c d _ h' => .exc c d h'
    | _ => .stuck) else .stuck
def callK (tbl : Str → Option FnRec) : Nat → Or
  | 0 => fun _ _ _ => .stuck
  | k + 1 => fun f args h => match tbl f with
    | some r => runFn r (callK tbl k) args h
    | none => .stuck

/-! operators -/
def opAdd : D → D → Hv → R D := fun x y h => match x, y with
  | .int i, .int j => .ok (.int (i + j)) h
  | .str a, .str b => if a.length + b.length ≤ szl then .ok (.str (a ++ b)) h else .stuck
  | .tup a, .tup b => if a.length + b.length ≤ szl then .ok (.tup (a ++ b)) h else .stuck
  | .ref p, .ref q => (match h[p]?, h[q]? with
    | some (.lst a), some (.lst b) => if a.length + b.length ≤ szl then .ok (.ref h.length) (h ++ [.lst (a ++ b)]) else .stuck
    | _, _ => .stuck)
  | _, _ => .stuck
def opSub : D → D → Hv → R D := fun x y h => match x, y with
  | .int i, .int j => .ok (.int (i - j)) h
  | _, _ => .stuck
def opMul : D → D → Hv → R D := fun x y h => match x, y with
  | .int i, .int j => if i.natAbs < big64 ∨ j.natAbs < big64 ∨ (i.natAbs < bigM ∧ j.natAbs < bigM) then .ok (.int (i * j)) h else .stuck
  | .ref p, .int k => (match h[p]? with
    | some (.lst a) => if 0 ≤ k ∧ k ≤ 1000 ∧ a.length ≤ 1000 then .ok (.ref h.length) (h ++ [.lst (List.replicate k.toNat a).flatten]) else .stuck
    | _ => .stuck)
  | .tup a, .int k => if k = 0 then .ok (.tup []) h else if k = 1 then .ok (.tup a) h else if a ≠ [] ∧ 2 ≤ k ∧ k ≤ 1000 ∧ a.length ≤ 1000 then .ok (.tup (List.replicate k.toNat a).flatten) h else .stuck
  | _, _ => .stuck
def opFdiv : D → D → Hv → R D := fun x y h => match x, y with
  | .int i, .int j => if 0 < j ∧ j.natAbs < bigD then .ok (.int (i / j)) h else .stuck
  | _, _ => .stuck
def opMod : D → D → Hv → R D := fun x y h => match x, y with
  | .int i, .int j => if 0 < j then .ok (.int (i % j)) h else .stuck
  | _, _ => .stuck
def opPow : D → D → Hv → R D := fun x y h => match x, y with
  | .int i, .int j => if 0 ≤ j ∧ j ≤ 1000 ∧ i.natAbs < big64 then .ok (.int (i ^ j.toNat)) h else .stuck
  | _, _ => .stuck
def opNeg : D → Hv → R D := fun x h => match x with
  | .int i => .ok (.int (-i)) h
  | _ => .stuck
def opNot : D → Hv → R D := fun x h => match x with
  | .bl b => .ok (.bl (!b)) h
  | _ => .stuck
def cmpI (p : Int → Int → Bool) : D → D → Hv → R D := fun x y h => match x, y with
  | .int i, .int j => .ok (.bl (p i j)) h
  | _, _ => .stuck
def opLt := cmpI fun i j => decide (i < j)
def opLe := cmpI fun i j => decide (i ≤ j)
def opGt := cmpI fun i j => decide (j < i)
def opGe := cmpI fun i j => decide (j ≤ i)
/-! == -/
mutual
/-- the data of a value; lists are read, n deep -/
def toP (h : Hv) : Nat → D → Option PyData
  | _, .non => some .none
  | _, .bl b => some (.bool b)
  | _, .int i => some (.int i)
  | _, .str s => if PyData.strOk s = true then some (.str s) else none
  | n + 1, .tup ds => (toPs h n ds).map .tuple
  | n + 1, .ref i => match h[i]? with
    | some (.lst ds) => (toPs h n ds).map .list
    | _ => none
  | 0, _ => none
def toPs (h : Hv) : Nat → List D → Option (List PyData)
  | _, [] => some []
  | n, d :: ds => match toP h n d with
    | some p => (match toPs h n ds with
      | some ps => some (p :: ps)
      | none => none)
    | none => none
end
def opEqD (neg : Bool) : D → D → Hv → R D := fun x y h => match toP h 60 x, toP h 60 y with
  | some p, some q => .ok (.bl (if neg then !PyData.eqv p q else PyData.eqv p q)) h
  | _, _ => .stuck
def opIs (neg : Bool) : D → D → Hv → R D := fun x y h => match x, y with
  | .bl a, .bl b => .ok (.bl (if neg then !decide (a = b) else decide (a = b))) h
  | x, .non => .ok (.bl (if neg then !decide (x = .non) else decide (x = .non))) h
  | _, _ => .stuck
def flatD : D → Bool
  | .non => true | .bl _ => true | .int _ => true | .str _ => true
  | _ => false
def eqD : D → D → Bool
  | .non, .non => true
  | .bl a, .bl b => a == b
  | .bl a, .int b => (if a then 1 else 0) == b
  | .int a, .bl b => a == (if b then 1 else 0)
  | .int a, .int b => a == b
  | .str a, .str b => a == b
  | _, _ => false
def opIn (neg : Bool) : D → D → Hv → R D := fun x y h => match seqOf y h with
  | some z => if flatD x = true ∧ z.1.all flatD = true then .ok (.bl (if neg then !(z.1.any fun y => eqD y x) else z.1.any fun y => eqD y x)) h else .stuck
  | none => .stuck
/-! subscripts -/
def opIx : D → D → Hv → R D := fun x y h => match y with
  | .int i => (match x with
    | .str z => if z.length ≤ szl then (match atI z.cps.toList i with
      | some c => .ok (.str ⟨#[c]⟩) h
      | none => .stuck) else .stuck
    | _ => (match seqOf x h with
      | some z => (match atI z.1 i with
        | some d => .ok d h
        | none => .stuck)
      | none => .stuck))
  | _ => .stuck
def cutD {α : Type} (xs : List α) (lo hi : Option Int) : List α := (xs.drop (HT.sIx xs.length 0 lo)).take (HT.sIx xs.length xs.length hi - HT.sIx xs.length 0 lo)
def opSl : D → Option Int → Option Int → Hv → R D := fun x lo hi h => match x with
  | .tup ds => .ok (.tup (cutD ds lo hi)) h
  | .ref p => (match h[p]? with
    | some (.lst ds) => .ok (.ref h.length) (h ++ [.lst (cutD ds lo hi)])
    | _ => .stuck)
  | _ => .stuck
/-! built-ins -/
def bLen : List D → Hv → R D := fun xs h => match xs with
  | [.str z] => if z.length ≤ szl then .ok (.int z.length) h else .stuck
  | [x] => (match seqOf x h with
    | some z => .ok (.int z.1.length) h
    | none => .stuck)
  | _ => .stuck
def bAbs : List D → Hv → R D := fun xs h => match xs with
  | [.int i] => .ok (.int (if i < 0 then -i else i)) h
  | _ => .stuck
def bInt : List D → Hv → R D := fun xs h => match xs with
  | [.int i] => .ok (.int i) h
  | [.bl b] => .ok (.int (if b then 1 else 0)) h
  | _ => .stuck
def bMax : List D → Hv → R D := fun xs h => match xs with
  | [.int i, .int j] => .ok (.int (if j > i then j else i)) h
  | _ => .stuck
def bMin : List D → Hv → R D := fun xs h => match xs with
  | [.int i, .int j] => .ok (.int (if j < i then j else i)) h
  | _ => .stuck
def intsD : List D → Option (List Int)
  | [] => some []
  | .int i :: r => (intsD r).map (i :: ·)
  | _ => none
def blsD : List D → Option (List Bool)
  | [] => some []
  | .bl i :: r => (blsD r).map (i :: ·)
  | _ => none
def lstAt (d : D) (h : Hv) : Option (List D) := match d with
  | .ref p => (match h[p]? with
    | some (.lst ds) => some ds
    | some (.ro ds) => some ds
    | none => none)
  | _ => none
def bSum : List D → Hv → R D := fun xs h => match xs with
  | [x] => (match (lstAt x h).bind intsD with
    | some ns => .ok (.int ns.sum) h
    | none => .stuck)
  | _ => .stuck
def bAll : List D → Hv → R D := fun xs h => match xs with
  | [x] => (match (lstAt x h).bind blsD with
    | some bs => .ok (.bl (bs.all id)) h
    | none => .stuck)
  | _ => .stuck
def bAny : List D → Hv → R D := fun xs h => match xs with
  | [x] => (match (lstAt x h).bind blsD with
    | some bs => .ok (.bl (bs.any id)) h
    | none => .stuck)
  | _ => .stuck
def bTuple : List D → Hv → R D := fun xs h => match xs with
  | [x] => (match seqOf x h with
    | some z => .ok (.tup z.1) h
    | none => .stuck)
  | _ => .stuck
def bList : List D → Hv → R D := fun xs h => match xs with
  | [x] => (match seqOf x h with
    | some z => .ok (.ref h.length) (h ++ [.lst z.1])
    | none => .stuck)
  | _ => .stuck
/-! methods of lists -/
def mAppend : D → List D → Hv → R D := fun o xs h => match o, xs with
  | .ref p, [d] => (match h[p]? with
    | some (.lst ds) => if ds.length < szl then .ok .non (h.set p (.lst (ds ++ [d]))) else .stuck
    | _ => .stuck)
  | _, _ => .stuck
def mReverse : D → List D → Hv → R D := fun o xs h => match o, xs with
  | .ref p, [] => (match h[p]? with
    | some (.lst ds) => .ok .non (h.set p (.lst ds.reverse))
    | _ => .stuck)
  | _, _ => .stuck
def isLst (d : D) (h : Hv) : Bool := match d with
  | .ref p => (match h[p]? with
    | some _ => true
    | none => false)
  | _ => false
def methF (g : D → List D → Hv → R D) (o : EF) (es : List EF) : EF := fun C env h => (o C env h).bind fun x h1 => if isLst x h1 = true then (listF es C env h1).bind fun ds h2 => g x ds h2 else .stuck
def mExtend : D → List D → Hv → R D := fun o xs h => match o, xs with
  | .ref p, [.tup es] => (match h[p]? with
    | some (.lst ds) => if ds.length + es.length ≤ szl then .ok .non (h.set p (.lst (ds ++ es))) else .stuck
    | _ => .stuck)
  | .ref p, [.ref q] => (match h[p]?, h[q]? with
    | some (.lst ds), some (.lst es) => if ds.length + es.length ≤ szl then .ok .non (h.set p (.lst (ds ++ es))) else .stuck
    | _, _ => .stuck)
  | _, _ => .stuck
def mClear : D → List D → Hv → R D := fun o xs h => match o, xs with
  | .ref p, [] => (match h[p]? with
    | some (.lst _) => .ok .non (h.set p (.lst []))
    | _ => .stuck)
  | _, _ => .stuck
/-- l.pop(i), i from 0 on -/
def mPop : D → List D → Hv → R D := fun o xs h => match o, xs with
  | .ref p, [.int i] => (match h[p]? with
    | some (.lst ds) => if 0 ≤ i ∧ i ≤ 1000 then (match ds[i.toNat]? with
      | some d => .ok d (h.set p (.lst (ds.eraseIdx i.toNat)))
      | none => .stuck) else .stuck
    | _ => .stuck)
  | _, _ => .stuck
/-- list(range(a)) -/
def lrF (a : EF) : EF := fun C env h => (a C env h).bind fun x h1 => match x with
  | .int j => if 0 ≤ j ∧ j ≤ 1000 then .ok (.ref h1.length) (h1 ++ [.lst (rng 0 j.toNat)]) else .stuck
  | _ => .stuck
/-! isinstance, by the name of a built-in class -/
def tyD (d : D) (h : Hv) : Option String := match d with
  | .non => some "NoneType"
  | .bl _ => some "bool"
  | .int _ => some "int"
  | .str _ => some "str"
  | .tup _ => some "tuple"
  | .ref p => (match h[p]? with
    | some _ => some "list"
    | none => none)
def isiD (t T : String) : Bool := t == T || (t == "bool" && T == "int")
def isiF (T : String) : D → Hv → R D := fun x h => match tyD x h with
  | some t => .ok (.bl (isiD t T)) h
  | none => .stuck
end VM

set_option maxRecDepth 100000
set_option maxHeartbeats 1000000
namespace VM
open PySem PySem.Spec PyProof.Rows L2

/-! what a value of ours is over there -/
mutual
inductive Rel (K : PySem.W.Frag) (L : List Addr) (H : Hp) : D → V → Prop
  | non : Rel K L H .non .non
  | bl (b : Bool) : Rel K L H (.bl b) (.bl b)
  | int (i : Int) : Rel K L H (.int i) (.int i)
  | str (s : Str) : Rel K L H (.str s) (.str s)
  | tup {ds : List D} {a : Addr} {xs : List V} : SqT K H a xs → Rels K L H ds xs → Rel K L H (.tup ds) (.ref a)
  | ref {i : Nat} {a : Addr} : L[i]? = some a → Rel K L H (.ref i) (.ref a)
inductive Rels (K : PySem.W.Frag) (L : List Addr) (H : Hp) : List D → List V → Prop
  | nil : Rels K L H [] []
  | cons {d : D} {ds : List D} {v : V} {vs : List V} : Rel K L H d v → Rels K L H ds vs → Rels K L H (d :: ds) (v :: vs)
end
def LE (L L' : List Addr) : Prop := ∀ (i : Nat) (a : Addr), L[i]? = some a → L'[i]? = some a
theorem LE.refl (L : List Addr) : LE L L := fun _ _ h => h
theorem LE.trans {L L1 L2 : List Addr} (a : LE L L1) (b : LE L1 L2) : LE L L2 := fun i x h => b i x (a i x h)
theorem LE.app (L M : List Addr) : LE L (L ++ M) := fun i a h => by
  have hi : i < L.length := (List.getElem?_eq_some_iff.mp h).1
  rw [List.getElem?_append_left hi]; exact h
structure Keep (K : PySem.W.Frag) (H H' : Hp) : Prop where
  tup : ∀ a xs, SqT K H a xs → SqT K H' a xs
  frz : ∀ a o u, H a = some (.frz o u) → H' a = some (.frz o u)
theorem Keep.refl {K : PySem.W.Frag} (H : Hp) : Keep K H H := ⟨fun _ _ h => h, fun _ _ _ h => h⟩
theorem Keep.trans {K : PySem.W.Frag} {H H1 H2 : Hp} (a : Keep K H H1) (b : Keep K H1 H2) : Keep K H H2 :=
  ⟨fun x xs h => b.tup x xs (a.tup x xs h), fun x o u h => b.frz x o u (a.frz x o u h)⟩
theorem Keep.new {K : PySem.W.Frag} {H : Hp} {p : Addr} {o : HO} (h : H p = none) : Keep K H (upd H p o) := by
  refine ⟨fun a xs q => ?_, fun a ob u q => ?_⟩
  · rcases q with (q | ⟨ob, q⟩) | q
    · exact .inl (.inl (by rw [upd_ne (ne_of_none q h)]; exact q))
    · exact .inl (.inr ⟨ob, by rw [upd_ne (ne_of_none q h)]; exact q⟩)
    · exact .inr q
  · rw [upd_ne (ne_of_none q h)]; exact q
theorem Keep.setL {K : PySem.W.Frag} {H : Hp} {p : Addr} {xs ys : List V} (h : H p = some (.lst xs)) : Keep K H (upd H p (.lst ys)) := by
  refine ⟨fun a zs q => ?_, fun a ob u q => ?_⟩
  · rcases q with (q | ⟨ob, q⟩) | q
    · exact .inl (.inl (by rw [upd_ne (ne_of q h (by intro z; cases z))]; exact q))
    · exact .inl (.inr ⟨ob, by rw [upd_ne (ne_of q h (by intro z; cases z))]; exact q⟩)
    · exact .inr q
  · rw [upd_ne (ne_of q h (by intro z; cases z))]; exact q
section
variable {K : PySem.W.Frag} {L L' : List Addr} {H H' : Hp}
mutual
theorem Rel.mono (le : LE L L') (kp : Keep K H H') : ∀ {d : D} {v : V}, Rel K L H d v → Rel K L' H' d v
  | _, _, .non => .non
  | _, _, .bl b => .bl b
  | _, _, .int i => .int i
  | _, _, .str s => .str s
  | _, _, .tup h r => .tup (kp.tup _ _ h) (Rels.mono le kp r)
  | _, _, .ref h => .ref (le _ _ h)
theorem Rels.mono (le : LE L L') (kp : Keep K H H') : ∀ {ds : List D} {vs : List V}, Rels K L H ds vs → Rels K L' H' ds vs
  | _, _, .nil => .nil
  | _, _, .cons r t => .cons (Rel.mono le kp r) (Rels.mono le kp t)
end
theorem Rels.len : ∀ {ds : List D} {vs : List V}, Rels K L H ds vs → ds.length = vs.length
  | _, _, .nil => rfl
  | _, _, .cons _ t => congrArg Nat.succ t.len
theorem Rels.get : ∀ {ds : List D} {vs : List V} {i : Nat} {d : D}, Rels K L H ds vs → ds[i]? = some d → ∃ v, vs[i]? = some v ∧ Rel K L H d v
  | _, _, _, _, .nil, e => by simp at e
  | _, _, 0, _, .cons r _, e => by simp at e; subst e; exact ⟨_, rfl, r⟩
  | _, _, i + 1, _, .cons _ t, e => by simpa using t.get (by simpa using e)
theorem Rels.getV : ∀ {ds : List D} {vs : List V} {i : Nat} {v : V}, Rels K L H ds vs → vs[i]? = some v → ∃ d, ds[i]? = some d ∧ Rel K L H d v
  | _, _, _, _, .nil, e => by simp at e
  | _, _, 0, _, .cons r _, e => by simp at e; subst e; exact ⟨_, rfl, r⟩
  | _, _, i + 1, _, .cons _ t, e => by simpa using t.getV (by simpa using e)
theorem Rels.app : ∀ {ds : List D} {vs : List V} {es : List D} {us : List V}, Rels K L H ds vs → Rels K L H es us → Rels K L H (ds ++ es) (vs ++ us)
  | _, _, _, _, .nil, s => s
  | _, _, _, _, .cons r t, s => .cons r (t.app s)
theorem Rels.set {d : D} {v : V} (r : Rel K L H d v) : ∀ {ds : List D} {vs : List V} (i : Nat), Rels K L H ds vs → Rels K L H (ds.set i d) (vs.set i v)
  | _, _, _, .nil => .nil
  | _, _, 0, .cons _ t => .cons r t
  | _, _, i + 1, .cons q t => .cons q (t.set r i)
theorem Rels.take : ∀ {ds : List D} {vs : List V} (n : Nat), Rels K L H ds vs → Rels K L H (ds.take n) (vs.take n)
  | _, _, 0, _ => .nil
  | _, _, _ + 1, .nil => .nil
  | _, _, n + 1, .cons r t => .cons r (t.take n)
theorem Rels.drop : ∀ {ds : List D} {vs : List V} (n : Nat), Rels K L H ds vs → Rels K L H (ds.drop n) (vs.drop n)
  | _, _, 0, r => r
  | _, _, _ + 1, .nil => .nil
  | _, _, n + 1, .cons _ t => t.drop n
theorem Rels.erase : ∀ {ds : List D} {vs : List V} (i : Nat), Rels K L H ds vs → Rels K L H (ds.eraseIdx i) (vs.eraseIdx i)
  | _, _, _, .nil => by simpa using Rels.nil
  | _, _, 0, .cons r t => by simpa using t
  | _, _, i + 1, .cons r t => by simpa using Rels.cons r (Rels.erase i t)
theorem Rels.ints (f : Nat → Int) : ∀ ns : List Nat, Rels K L H (ns.map fun i => .int (f i)) (ns.map fun i => V.int (f i))
  | [] => .nil
  | n :: ns => .cons (.int _) (Rels.ints f ns)
theorem Rels.rev : ∀ {ds : List D} {vs : List V}, Rels K L H ds vs → Rels K L H ds.reverse vs.reverse
  | _, _, .nil => .nil
  | _, _, .cons r t => by rw [List.reverse_cons, List.reverse_cons]; exact t.rev.app (.cons r .nil)
theorem Rels.rep {ds : List D} {vs : List V} (r : Rels K L H ds vs) : ∀ k : Nat, Rels K L H (List.replicate k ds).flatten (List.replicate k vs).flatten
  | 0 => .nil
  | k + 1 => by rw [List.replicate_succ, List.replicate_succ, List.flatten_cons, List.flatten_cons]; exact r.app (r.rep k)
theorem Rels.cut {ds : List D} {vs : List V} (r : Rels K L H ds vs) (lo hi : Option Int) : Rels K L H (cutD ds lo hi) (cutV vs lo hi) := by
  unfold cutD cutV
  rw [r.len]
  exact (r.drop _).take _
end
/-- the script: read, never written -/
def RoL (K : PySem.W.Frag) (H : Hp) (a : Addr) (xs : List V) : Prop := (∃ o, H a = some (.frz o (.lst xs))) ∨
  ∃ (o : Obj) (its : Array Value) (n : Nat), K.lookup a = some o ∧ o.cls = .type "list" ∧ o.dict = none ∧ o.data = .seq its n ∧ its.size ≤ sizeLine ∧ Vals xs its.toList
theorem RoL.seq {K : PySem.W.Frag} {H : Hp} {a : Addr} {xs : List V} (h : RoL K H a xs) : SqL K H a xs := by
  rcases h with ⟨o, h⟩ | h
  · exact .inl (.inr ⟨o, h⟩)
  · exact .inr h
theorem RoL.keep {K : PySem.W.Frag} {H H' : Hp} {a : Addr} {xs : List V} (kp : Keep K H H') (h : RoL K H a xs) : RoL K H' a xs := by
  rcases h with ⟨o, h⟩ | h
  · exact .inl ⟨o, kp.frz _ _ _ h⟩
  · exact .inr h
structure HR (K : PySem.W.Frag) (L : List Addr) (H : Hp) (h : Hv) : Prop where
  len : L.length = h.length
  lst : ∀ (i : Nat) (a : Addr) (ds : List D), h[i]? = some (Ob.lst ds) → L[i]? = some a → ∃ xs, H a = some (.lst xs) ∧ Rels K L H ds xs
  ro : ∀ (i : Nat) (a : Addr) (ds : List D), h[i]? = some (Ob.ro ds) → L[i]? = some a → ∃ xs, RoL K H a xs ∧ Rels K L H ds xs
  inj : ∀ (i j : Nat) (a : Addr) (ds es : List D), h[i]? = some (Ob.lst ds) → h[j]? = some (Ob.lst es) → L[i]? = some a → L[j]? = some a → i = j
section
variable {K : PySem.W.Frag} {L L' : List Addr} {H H' : Hp} {h h' : Hv}
theorem HR.addr (hr : HR K L H h) {i : Nat} {o : Ob} (e : h[i]? = some o) : ∃ a, L[i]? = some a := by
  have hi : i < h.length := (List.getElem?_eq_some_iff.mp e).1
  exact ⟨_, List.getElem?_eq_getElem (by rw [hr.len]; exact hi)⟩
theorem HR.ob (hr : HR K L H h) {i : Nat} {a : Addr} (e : L[i]? = some a) : ∃ o, h[i]? = some o := by
  have hi : i < L.length := (List.getElem?_eq_some_iff.mp e).1
  exact ⟨_, List.getElem?_eq_getElem (by rw [← hr.len]; exact hi)⟩
/-- something new that is no list of ours -/
theorem HR.new {p : Addr} {o : HO} (hr : HR K L H h) (n : H p = none) : HR K L (upd H p o) h := by
  have kp : Keep K H (upd H p o) := Keep.new n
  refine ⟨hr.len, fun i a ds e1 e2 => ?_, fun i a ds e1 e2 => ?_, hr.inj⟩
  · obtain ⟨xs, q, r⟩ := hr.lst i a ds e1 e2
    exact ⟨xs, by rw [upd_ne (ne_of_none q n)]; exact q, r.mono (LE.refl L) kp⟩
  · obtain ⟨xs, q, r⟩ := hr.ro i a ds e1 e2
    exact ⟨xs, q.keep kp, r.mono (LE.refl L) kp⟩
theorem HR.alloc {p : Addr} {ds : List D} {xs : List V} (hr : HR K L H h) (n : H p = none) (r : Rels K L H ds xs) : HR K (L ++ [p]) (upd H p (.lst xs)) (h ++ [.lst ds]) := by
  have kp : Keep K H (upd H p (.lst xs)) := Keep.new n
  have le := LE.app L [p]
  have old : ∀ {i : Nat} {o : Ob}, (h ++ [.lst ds])[i]? = some o → (i < h.length ∧ h[i]? = some o) ∨ (i = h.length ∧ o = .lst ds) := fun {i o} e => by
    by_cases hi : i < h.length
    · rw [List.getElem?_append_left hi] at e; exact .inl ⟨hi, e⟩
    · have e2 : i < h.length + 1 := by have := (List.getElem?_eq_some_iff.mp e).1; simpa using this
      have e3 : i = h.length := by omega
      subst e3
      simp at e
      exact .inr ⟨rfl, e.symm⟩
  have oldL : ∀ {i : Nat} {a : Addr}, i < h.length → (L ++ [p])[i]? = some a → L[i]? = some a := fun {i a} hi e => by
    rw [List.getElem?_append_left (by rw [hr.len]; exact hi)] at e; exact e
  have newL : ∀ {a : Addr}, (L ++ [p])[h.length]? = some a → a = p := fun {a} e => by
    rw [← hr.len] at e; simp at e; exact e.symm
  refine ⟨by simp [hr.len], fun i a es e1 e2 => ?_, fun i a es e1 e2 => ?_, fun i j a es fs e1 e2 e3 e4 => ?_⟩
  · rcases old e1 with ⟨hi, e1⟩ | ⟨rfl, e9⟩
    · obtain ⟨ys, q, s⟩ := hr.lst i a es e1 (oldL hi e2)
      exact ⟨ys, by rw [upd_ne (ne_of_none q n)]; exact q, s.mono le kp⟩
    · cases e9
      obtain rfl := newL e2
      exact ⟨xs, upd_same, r.mono le kp⟩
  · rcases old e1 with ⟨hi, e1⟩ | ⟨rfl, e9⟩
    · obtain ⟨ys, q, s⟩ := hr.ro i a es e1 (oldL hi e2)
      exact ⟨ys, q.keep kp, s.mono le kp⟩
    · cases e9
  · rcases old e1 with ⟨hi, e1⟩ | ⟨rfl, e9⟩
    · rcases old e2 with ⟨hj, e2⟩ | ⟨rfl, e9⟩
      · exact hr.inj i j a es fs e1 e2 (oldL hi e3) (oldL hj e4)
      · obtain rfl := newL e4
        obtain ⟨ys, q, s⟩ := hr.lst i _ es e1 (oldL hi e3)
        rw [n] at q; cases q
    · rcases old e2 with ⟨hj, e2⟩ | ⟨rfl, e9⟩
      · obtain rfl := newL e3
        obtain ⟨ys, q, s⟩ := hr.lst j _ fs e2 (oldL hj e4)
        rw [n] at q; cases q
      · rfl
theorem HR.set {i : Nat} {a : Addr} {ds0 ds : List D} {xs : List V} (hr : HR K L H h) (e : h[i]? = some (.lst ds0)) (ea : L[i]? = some a) (r : Rels K L H ds xs) : HR K L (upd H a (.lst xs)) (h.set i (.lst ds)) := by
  obtain ⟨xs0, q0, r0⟩ := hr.lst i a ds0 e ea
  have kp : Keep K H (upd H a (.lst xs)) := Keep.setL q0
  have hi : i < h.length := (List.getElem?_eq_some_iff.mp e).1
  have old : ∀ {j : Nat} {o : Ob}, (h.set i (.lst ds))[j]? = some o → (j ≠ i ∧ h[j]? = some o) ∨ (j = i ∧ o = .lst ds) := fun {j o} e => by
    by_cases hj : j = i
    · subst hj
      rw [List.getElem?_set_self hi] at e
      exact .inr ⟨rfl, (Option.some.inj e).symm⟩
    · rw [List.getElem?_set_ne (Ne.symm hj)] at e
      exact .inl ⟨hj, e⟩
  refine ⟨by rw [List.length_set]; exact hr.len, fun j b es e1 e2 => ?_, fun j b es e1 e2 => ?_, fun j k b es fs e1 e2 e3 e4 => ?_⟩
  · rcases old e1 with ⟨hj, e1⟩ | ⟨rfl, e9⟩
    · obtain ⟨ys, q, s⟩ := hr.lst j b es e1 e2
      have hb : b ≠ a := fun z => by subst z; exact hj (hr.inj j i b es ds0 e1 e e2 ea)
      exact ⟨ys, by rw [upd_ne hb]; exact q, s.mono (LE.refl L) kp⟩
    · cases e9
      rw [ea] at e2; cases e2
      exact ⟨xs, upd_same, r.mono (LE.refl L) kp⟩
  · rcases old e1 with ⟨hj, e1⟩ | ⟨rfl, e9⟩
    · obtain ⟨ys, q, s⟩ := hr.ro j b es e1 e2
      exact ⟨ys, q.keep kp, s.mono (LE.refl L) kp⟩
    · cases e9
  · have l1 : ∃ es', h[j]? = some (.lst es') := by
      rcases old e1 with ⟨_, e1⟩ | ⟨rfl, _⟩
      · exact ⟨es, e1⟩
      · exact ⟨ds0, e⟩
    have l2 : ∃ es', h[k]? = some (.lst es') := by
      rcases old e2 with ⟨_, e2⟩ | ⟨rfl, _⟩
      · exact ⟨fs, e2⟩
      · exact ⟨ds0, e⟩
    obtain ⟨es', l1⟩ := l1
    obtain ⟨fs', l2⟩ := l2
    exact hr.inj j k b es' fs' l1 l2 e3 e4
end
/-- the slots -/
structure SRel (K : PySem.W.Frag) (L : List Addr) (H : Hp) (env : Env) (σ : L2.St) : Prop where
  len : env.length = σ.length
  at_ : ∀ (i : Nat) d, env[i]? = some (some d) → ∃ v, σ[i]? = some (some v) ∧ Rel K L H d v
theorem SRel.mono {K : PySem.W.Frag} {L L' : List Addr} {H H' : Hp} {env : Env} {σ : L2.St} (s : SRel K L H env σ) (le : LE L L') (kp : Keep K H H') : SRel K L' H' env σ :=
  ⟨s.len, fun i d e => let ⟨v, e1, r⟩ := s.at_ i d e; ⟨v, e1, r.mono le kp⟩⟩
theorem SRel.set {K : PySem.W.Frag} {L : List Addr} {H : Hp} {env : Env} {σ : L2.St} {i : Nat} {d : D} {v : V} (s : SRel K L H env σ) (r : Rel K L H d v) : SRel K L H (env.set i (some d)) (σ.set i (some v)) := by
  refine ⟨by rw [List.length_set, List.length_set]; exact s.len, fun j e h => ?_⟩
  by_cases hj : i = j
  · subst hj
    have hi : i < env.length := by have := (List.getElem?_eq_some_iff.mp h).1; simpa using this
    rw [List.getElem?_set_self hi] at h
    cases h
    exact ⟨v, by rw [List.getElem?_set_self (by rw [← s.len]; exact hi)], r⟩
  · rw [List.getElem?_set_ne hj] at h
    obtain ⟨u, e1, q⟩ := s.at_ j e h
    exact ⟨u, by rw [List.getElem?_set_ne hj]; exact e1, q⟩
theorem SRel.wipe {K : PySem.W.Frag} {L : List Addr} {H : Hp} {env : Env} {σ : L2.St} (s : SRel K L H env σ) : ∀ vs : List Nat, SRel K L H (wipeD env vs) (wipe σ vs)
  | [] => s
  | v :: vs => by
    have ih := s.wipe vs
    unfold wipeD L2.wipe
    refine ⟨by rw [List.length_set, List.length_set]; exact ih.len, fun j e h => ?_⟩
    by_cases hj : v = j
    · subst hj
      by_cases hv : v < (wipeD env vs).length
      · rw [List.getElem?_set_self hv] at h; cases h
      · rw [List.getElem?_eq_none (by simpa using hv)] at h; cases h
    · rw [List.getElem?_set_ne hj] at h
      obtain ⟨u, e1, q⟩ := ih.at_ j e h
      exact ⟨u, by rw [List.getElem?_set_ne hj]; exact e1, q⟩

/-! ends -/
/-- an exception of ours over there: its class by the module's name, what it bears -/
def ExR (K : PySem.W.Frag) (mg : Str → Option Value) (L : List Addr) (H : Hp) (c : Str) (d : D) (cv : Value) (dx : Option Addr) : Prop :=
  mg c = some cv ∧ ((d = .non ∧ dx = none) ∨ ∃ p v, dx = some p ∧ H p = some (.xd [("at", v)]) ∧ Rel K L H d v)
/-- a wish at the end of what gives an a: b over there, as ρ says -/
def pRg {α β : Type} (ρ : List Addr → Hp → α → β → Prop) (K : PySem.W.Frag) (mg : Str → Option Value) (L : List Addr) (H : Hp) (W : WX) (σ : L2.St) (Q : β → Hp → Prop) : R α → Prop
  | .ok a h' => ∀ L' H' b, LE L L' → Keep K H H' → HR K L' H' h' → ρ L' H' a b → Q b H'
  | .exc c d h' => ∀ L' H' cv dx, LE L L' → Keep K H H' → HR K L' H' h' → ExR K mg L' H' c d cv dx → W cv dx σ H'
  | .stuck => False
section
variable {K : PySem.W.Frag} {mg : Str → Option Value} {L L' : List Addr} {H H' : Hp} {h h' : Hv} {W : WX} {σ : L2.St} {α β γ δ : Type} {ρ : List Addr → Hp → α → β → Prop} {ρ' : List Addr → Hp → γ → δ → Prop} {Q : δ → Hp → Prop}
theorem pRg.mono {r : R γ} (p : pRg ρ' K mg L H W σ Q r) (le : LE L L') (kp : Keep K H H') : pRg ρ' K mg L' H' W σ Q r := by
  cases r with
  | ok a h1 => exact fun L2 H2 b l k => p L2 H2 b (le.trans l) (kp.trans k)
  | exc c d h1 => exact fun L2 H2 cv dx l k => p L2 H2 cv dx (le.trans l) (kp.trans k)
  | stuck => exact p
theorem pRg.then_ {r : R α} {g : α → Hv → R γ} {REST : β → Hp → Prop} (p : pRg ρ' K mg L H W σ Q (r.bind g))
    (k : ∀ a h1 L1 H1 b, LE L L1 → Keep K H H1 → HR K L1 H1 h1 → ρ L1 H1 a b → pRg ρ' K mg L1 H1 W σ Q (g a h1) → REST b H1) : pRg ρ K mg L H W σ REST r := by
  cases r with
  | ok a h1 => exact fun L1 H1 b le kp hr rl => k a h1 L1 H1 b le kp hr rl (pRg.mono p le kp)
  | exc c d h1 => exact p
  | stuck => exact p
end
abbrev pR (K : PySem.W.Frag) (mg : Str → Option Value) (L : List Addr) (H : Hp) (W : WX) (σ : L2.St) (Q : VK) : R D → Prop := pRg (Rel K) K mg L H W σ Q
abbrev pA (K : PySem.W.Frag) (mg : Str → Option Value) (L : List Addr) (H : Hp) (W : WX) (σ : L2.St) (Q : List V → Hp → Prop) : R (List D) → Prop := pRg (Rels K) K mg L H W σ Q
abbrev pO (K : PySem.W.Frag) (mg : Str → Option Value) (L : List Addr) (H : Hp) (W : WX) (σ : L2.St) (Q : Option Int → Hp → Prop) : R (Option Int) → Prop := pRg (fun _ _ a b => a = b) K mg L H W σ Q
abbrev Fe := Env → Hv → R D
/-- the reading of ours -/
def tE (X : Cx) (W : WX) (f : Fe) : TE := fun σ H Q => ∃ L h env, HR X.K L H h ∧ SRel X.K L H env σ ∧ pR X.K X.mg L H W σ Q (f env h)
def tA (X : Cx) (W : WX) (f : Env → Hv → R (List D)) : TA := fun σ H Q => ∃ L h env, HR X.K L H h ∧ SRel X.K L H env σ ∧ pA X.K X.mg L H W σ Q (f env h)
def tO (X : Cx) (W : WX) (f : Env → Hv → R (Option Int)) : TO := fun σ H Q => ∃ L h env, HR X.K L H h ∧ SRel X.K L H env σ ∧ pO X.K X.mg L H W σ Q (f env h)
/-- a test -/
def tT (X : Cx) (W : WX) (f : Fe) : TT := fun σ H Q => ∃ L h env, HR X.K L H h ∧ SRel X.K L H env σ ∧ pRg (fun _ _ d b => d = D.bl b) X.K X.mg L H W σ Q (f env h) ∧ ∀ d h', f env h = .ok d h' → ∃ b, d = D.bl b
theorem PE.weak {X : Cx} {e : Expr} {t t' : TE} (h : PE X e t) (w : ∀ σ H Q, t' σ H Q → t σ H Q) : PE X e t' := ⟨fun pins s σ H Q I q => h.run pins s σ H Q I (w σ H Q q)⟩
theorem PT.weak {X : Cx} {e : Expr} {t t' : TT} (h : PT X e t) (w : ∀ σ H Q, t' σ H Q → t σ H Q) : PT X e t' := ⟨fun pins s σ H Q I q => h.run pins s σ H Q I (w σ H Q q)⟩
theorem PW.weak {X : Cx} {e : Expr} {t t' : TT} (h : PW X e t) (w : ∀ σ H Q, t' σ H Q → t σ H Q) : PW X e t' := ⟨fun wh pins s σ H Q I q => h.run wh pins s σ H Q I (w σ H Q q)⟩
theorem PA.weak {X : Cx} {e : List Expr} {t t' : TA} (h : PA X e t) (w : ∀ σ H Q, t' σ H Q → t σ H Q) : PA X e t' := ⟨fun pos pins s σ H Q I q => h.run pos pins s σ H Q I (w σ H Q q)⟩
theorem PO.weak {X : Cx} {e : Option Expr} {t t' : TO} (h : PO X e t) (w : ∀ σ H Q, t' σ H Q → t σ H Q) : PO X e t' := ⟨fun pins s σ H Q I q => h.run pins s σ H Q I (w σ H Q q)⟩
theorem PS.weak {X : Cx} {e : Stmt} {t t' : TS} (h : PS X e t) (w : ∀ D σ H, t' D σ H → t D σ H) : PS X e t' := ⟨fun pins s σ H D I q => h.run pins s σ H D I (w D σ H q)⟩
theorem PSs.weak {X : Cx} {e : List Stmt} {t t' : TS} (h : PSs X e t) (w : ∀ D σ H, t' D σ H → t D σ H) : PSs X e t' := ⟨fun pins s σ H D I q => h.run pins s σ H D I (w D σ H q)⟩
end VM

set_option maxRecDepth 100000
set_option maxHeartbeats 1000000
namespace VM
open PySem PySem.Spec PyProof.Rows L2

/-! tests -/
def pT (K : PySem.W.Frag) (mg : Str → Option Value) (L : List Addr) (H : Hp) (W : WX) (σ : L2.St) (Q : Bool → Hp → Prop) : R D → Prop
  | .ok (.bl b) h' => ∀ L' H', LE L L' → Keep K H H' → HR K L' H' h' → Q b H'
  | .exc c d h' => ∀ L' H' cv dx, LE L L' → Keep K H H' → HR K L' H' h' → ExR K mg L' H' c d cv dx → W cv dx σ H'
  | _ => False
def tB (X : Cx) (W : WX) (f : Fe) : TT := fun σ H Q => ∃ L h env, HR X.K L H h ∧ SRel X.K L H env σ ∧ pT X.K X.mg L H W σ Q (f env h)
section
variable {K : PySem.W.Frag} {mg : Str → Option Value} {L L' : List Addr} {H H' : Hp} {h h' : Hv} {W : WX} {σ : L2.St}
theorem pT.toR {Q : Bool → Hp → Prop} {r : R D} (p : pT K mg L H W σ Q r) : pR K mg L H W σ (fun x H1 => ∃ c, x = .bl c ∧ Q c H1) r := by
  cases r with
  | ok d h1 =>
    cases d with
    | bl b =>
      intro L' H' v le kp hr rel
      cases rel
      exact ⟨b, rfl, p L' H' le kp hr⟩
    | _ => exact p.elim
  | exc c d h1 => exact p
  | stuck => exact p.elim
/-- a test's use -/
theorem pT.use {α β : Type} {ρ : List Addr → Hp → α → β → Prop} {Q : β → Hp → Prop} {REST : Bool → Hp → Prop} {r : R D} {g : D → Hv → R α} (p : pRg ρ K mg L H W σ Q (r.bind g)) (st : ∀ d h, (∀ b, d ≠ .bl b) → g d h = .stuck)
    (k : ∀ b h1 L1 H1, LE L L1 → Keep K H H1 → HR K L1 H1 h1 → pRg ρ K mg L1 H1 W σ Q (g (.bl b) h1) → REST b H1) : pT K mg L H W σ REST r := by
  cases r with
  | ok d h1 =>
    have p' : pRg ρ K mg L H W σ Q (g d h1) := p
    cases d with
    | bl b => exact fun L1 H1 le kp hr => k b h1 L1 H1 le kp hr (p'.mono le kp)
    | _ => exact absurd p' (by rw [st _ h1 (by intro b z; cases z)]; exact id)
  | exc c d h1 => exact p
  | stuck => exact p
theorem pT.useT {REST Q : Bool → Hp → Prop} {r : R D} {g : D → Hv → R D} (p : pT K mg L H W σ Q (r.bind g)) (st : ∀ d h, (∀ b, d ≠ .bl b) → g d h = .stuck)
    (k : ∀ b h1 L1 H1, LE L L1 → Keep K H H1 → HR K L1 H1 h1 → pT K mg L1 H1 W σ Q (g (.bl b) h1) → REST b H1) : pT K mg L H W σ REST r := by
  have mono : ∀ {r : R D} {L1 H1}, pT K mg L H W σ Q r → LE L L1 → Keep K H H1 → pT K mg L1 H1 W σ Q r := fun {r L1 H1} q le kp => by
    cases r with
    | ok d h1 =>
      cases d with
      | bl b => exact fun L2 H2 l kk => q L2 H2 (le.trans l) (kp.trans kk)
      | _ => exact q.elim
    | exc c d h1 => exact fun L2 H2 cv dx l kk => q L2 H2 cv dx (le.trans l) (kp.trans kk)
    | stuck => exact q.elim
  cases r with
  | ok d h1 =>
    have p' : pT K mg L H W σ Q (g d h1) := p
    cases d with
    | bl b => exact fun L1 H1 le kp hr => k b h1 L1 H1 le kp hr (mono p' le kp)
    | _ => exact absurd p' (by rw [st _ h1 (by intro b z; cases z)]; exact id)
  | exc c d h1 => exact p
  | stuck => exact p
end

/-! expressions -/
section
variable {X : Cx} {W : WX} {a b c e : Expr} {fa fb fc : Fe} {pos : Pos}
theorem here {Q : VK} {L : List Addr} {H : Hp} {h : Hv} {σ : L2.St} {d : D} {v : V} (hr : HR X.K L H h) (hp : pR X.K X.mg L H W σ Q (.ok d h)) (r : Rel X.K L H d v) : Q v H := hp L H v (LE.refl L) (Keep.refl H) hr r
theorem r_var {i : Nat} {x : Str} (C : Or) (hN : X.N[i]? = some x) (hv : Vis X.env.scope x) (hd : (x == ("__debug__" : Str)) = false) (hcd : (x == ("__classdict__" : Str)) = false) : PE X (.Name x pos) (tE X W (varF i C)) := by
  refine PE.weak (pe_var hN hv hd hcd) fun σ H Q ⟨L, h, env, hr, sr, hp⟩ => ?_
  unfold varF at hp
  split at hp
  · rename_i d e
    obtain ⟨v, e1, r⟩ := sr.at_ i d e
    exact ⟨v, e1, here hr hp r⟩
  · exact hp.elim
theorem r_int {i : Int} {j : Nat} (C : Or) : PE X (.Constant (.int i) j pos) (tE X W (conF (.int i) C)) := PE.weak pe_int fun σ H Q ⟨L, h, env, hr, sr, hp⟩ => here hr hp (.int i)
theorem r_bl {i : Bool} {j : Nat} (C : Or) : PE X (.Constant (.bool i) j pos) (tE X W (conF (.bl i) C)) := PE.weak pe_bl fun σ H Q ⟨L, h, env, hr, sr, hp⟩ => here hr hp (.bl i)
theorem r_str {i : Str} {j : Nat} (C : Or) : PE X (.Constant (.str i) j pos) (tE X W (conF (.str i) C)) := PE.weak pe_str fun σ H Q ⟨L, h, env, hr, sr, hp⟩ => here hr hp (.str i)
theorem r_non {j : Nat} (C : Or) : PE X (.Constant .none j pos) (tE X W (conF .non C)) := PE.weak pe_non fun σ H Q ⟨L, h, env, hr, sr, hp⟩ => here hr hp .non
theorem r_glob {x : Str} {d : D} {u : Value} {v : V} (C : Or) (hg : Gl X x) (hm : X.mg x = some u) (rv : RelV v u) (rel : ∀ L H, Rel X.K L H d v) (hd : (x == ("__debug__" : Str)) = false) : PE X (.Name x pos) (tE X W (conF d C)) :=
  PE.weak (pe_glob hg hm rv hd) fun σ H Q ⟨L, h, env, hr, sr, hp⟩ => here hr hp (rel L H)
/-- what a two-place operation asks is what ours gives -/
def OkR (X : Cx) (W : WX) (g : D → D → Hv → R D) (r : R2) : Prop := ∀ L H h σ d1 d2 v1 v2 Q, HR X.K L H h → Rel X.K L H d1 v1 → Rel X.K L H d2 v2 → pR X.K X.mg L H W σ Q (g d1 d2 h) → r v1 v2 H Q
def OkU (X : Cx) (W : WX) (g : D → Hv → R D) (r : V → Hp → VK → Prop) : Prop := ∀ L H h σ d v Q, HR X.K L H h → Rel X.K L H d v → pR X.K X.mg L H W σ Q (g d h) → r v H Q
def OkC (X : Cx) (W : WX) (g : List D → Hv → R D) (r : List V → Hp → VK → Prop) : Prop := ∀ L H h σ ds vs Q, HR X.K L H h → Rels X.K L H ds vs → pR X.K X.mg L H W σ Q (g ds h) → r vs H Q
/-- two in a row -/
theorem two {g : D → D → Hv → R D} {r : R2} (o : OkR X W g r) {σ : L2.St} {H : Hp} {Q : VK} {L : List Addr} {h : Hv} {env : Env} (hr : HR X.K L H h) (sr : SRel X.K L H env σ)
    (hp : pR X.K X.mg L H W σ Q ((fa env h).bind fun x h1 => (fb env h1).bind fun y h2 => g x y h2)) : tE X W fa σ H fun x H1 => tE X W fb σ H1 fun y H2 => r x y H2 Q :=
  ⟨L, h, env, hr, sr, hp.then_ fun d1 h1 L1 H1 v1 le kp hr1 r1 hp1 => ⟨L1, h1, env, hr1, sr.mono le kp, hp1.then_ fun d2 h2 L2 H2 v2 le2 kp2 hr2 r2 hp2 => o L2 H2 h2 σ d1 d2 v1 v2 Q hr2 (r1.mono le2 kp2) r2 hp2⟩⟩
theorem r_op {op : Operator} {g : D → D → Hv → R D} {r : R2} (C : Or) {fa fb : EF} (o : OkR X W g r) (ho : OpR X (binaryOp op) r) (ha : PE X a (tE X W (fa C))) (hb : PE X b (tE X W (fb C))) : PE X (.BinOp a op b pos) (tE X W (binF g fa fb C)) :=
  PE.weak (pe_op ho ha hb) fun σ H Q ⟨L, h, env, hr, sr, hp⟩ => two o hr sr hp
theorem r_cmp {op : CmpOp} {g : D → D → Hv → R D} {r : R2} (C : Or) {fa fb : EF} (o : OkR X W g r) (ho : OpR X (compareOp op) r) (hm : behindInMarks op b = false) (ha : PE X a (tE X W (fa C))) (hb : PE X b (tE X W (fb C))) : PE X (.Compare a [op] [b] pos) (tE X W (binF g fa fb C)) :=
  PE.weak (pe_cmpR ho ha hb hm) fun σ H Q ⟨L, h, env, hr, sr, hp⟩ => two o hr sr hp
theorem r_ix {g : D → D → Hv → R D} {r : R2} (C : Or) {fa fb : EF} (o : OkR X W g r) (ho : IxR X r) (ha : PE X a (tE X W (fa C))) (hb : PE X b (tE X W (fb C))) (hs : PlainIx b) : PE X (.Subscript a b pos) (tE X W (binF g fa fb C)) :=
  PE.weak (pe_ix ho ha hb hs) fun σ H Q ⟨L, h, env, hr, sr, hp⟩ => two o hr sr hp
theorem r_un {op : UnaryOp} {g : D → Hv → R D} {r : V → Hp → VK → Prop} (C : Or) {fa : EF} (o : OkU X W g r) (ho : UnR X (unaryOp op) r) (ha : PE X a (tE X W (fa C))) : PE X (.UnaryOp op a pos) (tE X W (un1F g fa C)) :=
  PE.weak (pe_un ho ha) fun σ H Q ⟨L, h, env, hr, sr, hp⟩ => ⟨L, h, env, hr, sr, pRg.then_ hp fun d1 h1 L1 H1 v1 le kp hr1 r1 hp1 => o L1 H1 h1 σ d1 v1 Q hr1 r1 hp1⟩
theorem r_not (C : Or) {fa : EF} (ha : PE X a (tE X W (fa C))) : PE X (.UnaryOp .Not a pos) (tE X W (un1F opNot fa C)) :=
  PE.weak (pe_not ha) fun σ H Q ⟨L, h, env, hr, sr, hp⟩ => ⟨L, h, env, hr, sr, pRg.then_ hp fun d1 h1 L1 H1 v1 le kp hr1 r1 hp1 => by
    cases r1 with
    | bl b => exact ⟨b, rfl, here hr1 hp1 (.bl _)⟩
    | _ => exact hp1.elim⟩
theorem r_one {op : BoolOp} {f : Fe} (ha : PE X a (tE X W f)) : PE X (.BoolOp op [a] pos) (tE X W f) := pe_one ha
theorem r_and {rest : List Expr} (C : Or) {fa fb : EF} (ha : PE X a (tE X W (fa C))) (hb : PE X (.BoolOp .And (b :: rest) pos) (tE X W (fb C))) : PE X (.BoolOp .And (a :: b :: rest) pos) (tE X W (andF fa fb C)) :=
  PE.weak (pe_and ha hb) fun σ H Q ⟨L, h, env, hr, sr, hp⟩ => ⟨L, h, env, hr, sr, pRg.then_ hp fun d1 h1 L1 H1 v1 le kp hr1 r1 hp1 => by
    cases r1 with
    | bl b =>
      refine ⟨b, rfl, ?_⟩
      cases b with
      | true => exact ⟨L1, h1, env, hr1, sr.mono le kp, hp1⟩
      | false => exact here hr1 hp1 (.bl _)
    | _ => exact hp1.elim⟩
theorem r_or {rest : List Expr} (C : Or) {fa fb : EF} (ha : PE X a (tE X W (fa C))) (hb : PE X (.BoolOp .Or (b :: rest) pos) (tE X W (fb C))) : PE X (.BoolOp .Or (a :: b :: rest) pos) (tE X W (orF fa fb C)) :=
  PE.weak (pe_or ha hb) fun σ H Q ⟨L, h, env, hr, sr, hp⟩ => ⟨L, h, env, hr, sr, pRg.then_ hp fun d1 h1 L1 H1 v1 le kp hr1 r1 hp1 => by
    cases r1 with
    | bl b =>
      refine ⟨b, rfl, ?_⟩
      cases b with
      | false => exact ⟨L1, h1, env, hr1, sr.mono le kp, hp1⟩
      | true => exact here hr1 hp1 (.bl _)
    | _ => exact hp1.elim⟩
theorem chain_ {g g' : D → D → Hv → R D} {r r' : R2} (o : OkR X W g r) (o' : OkR X W g' r') (C : Or) {fa fb fc : EF} {σ : L2.St} {H : Hp} {Q : VK} {L : List Addr} {h : Hv} {env : Env} (hr : HR X.K L H h) (sr : SRel X.K L H env σ)
    (hp : pR X.K X.mg L H W σ Q (chainF g g' fa fb fc C env h)) : tChain r r' (tE X W (fa C)) (tE X W (fb C)) (tE X W (fc C)) σ H Q := by
  refine ⟨L, h, env, hr, sr, pRg.then_ hp fun d1 h1 L1 H1 v1 le kp hr1 r1 hp1 => ⟨L1, h1, env, hr1, sr.mono le kp, pRg.then_ hp1 fun d2 h2 L2 H2 v2 le2 kp2 hr2 r2 hp2 => ?_⟩⟩
  refine o L2 H2 h2 σ d1 d2 v1 v2 _ hr2 (r1.mono le2 kp2) r2 (pRg.then_ hp2 fun d3 h3 L3 H3 v3 le3 kp3 hr3 r3 hp3 => ?_)
  cases r3 with
  | bl k =>
    refine ⟨k, rfl, ?_⟩
    cases k with
    | true => exact ⟨L3, h3, env, hr3, (sr.mono le kp).mono (le2.trans le3) (kp2.trans kp3), pRg.then_ hp3 fun d4 h4 L4 H4 v4 le4 kp4 hr4 r4 hp4 => o' L4 H4 h4 σ d2 d4 v2 v4 Q hr4 (r2.mono (le3.trans le4) (kp3.trans kp4)) r4 hp4⟩
    | false => exact here hr3 hp3 (.bl _)
  | _ => exact hp3.elim
theorem r_chain {op op' : CmpOp} {g g' : D → D → Hv → R D} {r r' : R2} (C : Or) {fa fb fc : EF} (o : OkR X W g r) (o' : OkR X W g' r') (ho : OpR X (compareOp op) r) (ho' : OpR X (compareOp op') r') (hm : behindInMarks op' c = false)
    (ha : PE X a (tE X W (fa C))) (hb : PE X b (tE X W (fb C))) (hc : PE X c (tE X W (fc C))) : PE X (.Compare a [op, op'] [b, c] pos) (tE X W (chainF g g' fa fb fc C)) :=
  PE.weak (pe_chain ho ho' ha hb hc hm) fun σ H Q ⟨L, h, env, hr, sr, hp⟩ => chain_ o o' C hr sr hp
/-! tests -/
theorem t_val {f : Fe} (h : PE X e (tE X W f)) (he : ∀ whole, isTrue e X.env whole = (do let v ← whole; standAt e.pos; holding [v] (truthy v))) : PT X e (tB X W f) :=
  PT.weak (pt_val h he) fun σ H Q ⟨L, h, env, hr, sr, hp⟩ => ⟨L, h, env, hr, sr, hp.toR⟩
theorem t_cmp {op : CmpOp} {g : D → D → Hv → R D} {r : R2} (C : Or) {fa fb : EF} (o : OkR X W g r) (ho : OpR X (compareOp op) r) (hm : behindInMarks op b = false) (ha : PE X a (tE X W (fa C))) (hb : PE X b (tE X W (fb C))) : PT X (.Compare a [op] [b] pos) (tB X W (binF g fa fb C)) :=
  PT.weak (pt_cmpR ho ha hb hm) fun σ H Q ⟨L, h, env, hr, sr, hp⟩ => two o hr sr hp.toR
theorem t_chain {op op' : CmpOp} {g g' : D → D → Hv → R D} {r r' : R2} (C : Or) {fa fb fc : EF} (o : OkR X W g r) (o' : OkR X W g' r') (ho : OpR X (compareOp op) r) (ho' : OpR X (compareOp op') r') (hm : behindInMarks op' c = false)
    (ha : PE X a (tE X W (fa C))) (hb : PE X b (tE X W (fb C))) (hc : PE X c (tE X W (fc C))) : PT X (.Compare a [op, op'] [b, c] pos) (tB X W (chainF g g' fa fb fc C)) :=
  PT.weak (pt_chain ho ho' ha hb hc hm) fun σ H Q ⟨L, h, env, hr, sr, hp⟩ => chain_ o o' C hr sr hp.toR
theorem t_not (C : Or) {fa : EF} (ha : PT X a (tB X W (fa C))) : PT X (.UnaryOp .Not a pos) (tB X W (un1F opNot fa C)) :=
  PT.weak (pt_not ha) fun σ H Q ⟨L, h, env, hr, sr, hp⟩ => ⟨L, h, env, hr, sr, pT.useT hp (fun d h n => by cases d <;> first | rfl | exact absurd rfl (n _)) fun b h1 L1 H1 le kp hr1 hp1 => hp1 L1 H1 (LE.refl _) (Keep.refl _) hr1⟩
theorem t_and1 {f : Fe} (ha : PT X a (tB X W f)) : PW X (.BoolOp .And [a] pos) (tB X W f) := pw_and1 ha
theorem t_or1 {f : Fe} (ha : PT X a (tB X W f)) : PW X (.BoolOp .Or [a] pos) (tB X W f) := pw_or1 ha
theorem t_and {rest : List Expr} (C : Or) {fa fb : EF} (ha : PT X a (tB X W (fa C))) (hb : PW X (.BoolOp .And (b :: rest) pos) (tB X W (fb C))) : PW X (.BoolOp .And (a :: b :: rest) pos) (tB X W (andF fa fb C)) :=
  PW.weak (pw_and ha hb) fun σ H Q ⟨L, h, env, hr, sr, hp⟩ => ⟨L, h, env, hr, sr, pT.useT hp (fun d h n => by cases d <;> first | rfl | exact absurd rfl (n _)) fun b h1 L1 H1 le kp hr1 hp1 => by
    cases b with
    | true => exact ⟨L1, h1, env, hr1, sr.mono le kp, hp1⟩
    | false => exact hp1 L1 H1 (LE.refl _) (Keep.refl _) hr1⟩
theorem t_or {rest : List Expr} (C : Or) {fa fb : EF} (ha : PT X a (tB X W (fa C))) (hb : PW X (.BoolOp .Or (b :: rest) pos) (tB X W (fb C))) : PW X (.BoolOp .Or (a :: b :: rest) pos) (tB X W (orF fa fb C)) :=
  PW.weak (pw_or ha hb) fun σ H Q ⟨L, h, env, hr, sr, hp⟩ => ⟨L, h, env, hr, sr, pT.useT hp (fun d h n => by cases d <;> first | rfl | exact absurd rfl (n _)) fun b h1 L1 H1 le kp hr1 hp1 => by
    cases b with
    | false => exact ⟨L1, h1, env, hr1, sr.mono le kp, hp1⟩
    | true => exact hp1 L1 H1 (LE.refl _) (Keep.refl _) hr1⟩
theorem r_ite (C : Or) {fc fa fb : EF} (hc : PT X c (tB X W (fc C))) (ha : PE X a (tE X W (fa C))) (hb : PE X b (tE X W (fb C))) : PE X (.IfExp c a b pos) (tE X W (iteF fc fa fb C)) :=
  PE.weak (pe_ifExp hc ha hb) fun σ H Q ⟨L, h, env, hr, sr, hp⟩ => ⟨L, h, env, hr, sr, pT.use hp (fun d h n => by cases d <;> first | rfl | exact absurd rfl (n _)) fun b h1 L1 H1 le kp hr1 hp1 => by
    cases b with
    | true => exact ⟨L1, h1, env, hr1, sr.mono le kp, hp1⟩
    | false => exact ⟨L1, h1, env, hr1, sr.mono le kp, hp1⟩⟩
/-! lists of expressions -/
theorem a_nil (C : Or) : PA X [] (tA X W (listF [] C)) := PA.weak pa_nil fun σ H Q ⟨L, h, env, hr, sr, hp⟩ => hp L H [] (LE.refl L) (Keep.refl H) hr .nil
theorem a_cons {es : List Expr} (C : Or) {f : EF} {fs : List EF} (ha : PE X e (tE X W (f C))) (hr : PA X es (tA X W (listF fs C))) (hs : starEach (e :: es) X.env = (false, eval e X.env) :: starEach es X.env) : PA X (e :: es) (tA X W (listF (f :: fs) C)) :=
  PA.weak (pa_cons ha hr hs) fun σ H Q ⟨L, h, env, hr, sr, hp⟩ => ⟨L, h, env, hr, sr, pRg.then_ hp fun d1 h1 L1 H1 v1 le kp hr1 r1 hp1 => ⟨L1, h1, env, hr1, sr.mono le kp, pRg.then_ hp1 fun ds h2 L2 H2 vs le2 kp2 hr2 r2 hp2 => hp2 L2 H2 _ (LE.refl _) (Keep.refl _) hr2 (.cons (r1.mono le2 kp2) r2)⟩⟩
theorem szl_le : szl ≤ sizeLine := by rw [sizeLine_eq]; decide
theorem r_tup {es : List Expr} {k : Nat} (C : Or) {fs : List EF} (ha : PA X es (tA X W (listF fs C))) : PE X (.Tuple es k pos) (tE X W (tupF fs C)) :=
  PE.weak (pe_tup ha) fun σ H Q ⟨L, h, env, hr, sr, hp⟩ => ⟨L, h, env, hr, sr, pRg.then_ hp fun ds h1 L1 H1 vs le kp hr1 r1 hp1 => by
    split at hp1
    · rename_i hz
      exact ⟨Nat.le_trans (by rw [← r1.len]; exact hz) szl_le, fun p np => hp1 L1 _ _ (LE.refl _) (Keep.new np) (hr1.new np) (.tup (.inl (.inl upd_same)) (r1.mono (LE.refl _) (Keep.new np)))⟩
    · exact hp1.elim⟩
theorem allocd {L : List Addr} {H : Hp} {h : Hv} {σ : L2.St} {Q : VK} {ds : List D} {vs : List V} {p : Addr} (hr : HR X.K L H h) (r : Rels X.K L H ds vs) (np : H p = none) (hp : pR X.K X.mg L H W σ Q (.ok (.ref h.length) (h ++ [.lst ds]))) : Q (.ref p) (upd H p (.lst vs)) :=
  hp (L ++ [p]) _ _ (LE.app _ _) (Keep.new np) (hr.alloc np r) (.ref (by rw [← hr.len]; simp))
theorem r_lst {es : List Expr} (C : Or) {fs : List EF} (ha : PA X es (tA X W (listF fs C))) : PE X (.List es pos) (tE X W (lstF fs C)) :=
  PE.weak (pe_lst ha) fun σ H Q ⟨L, h, env, hr, sr, hp⟩ => ⟨L, h, env, hr, sr, pRg.then_ hp fun ds h1 L1 H1 vs le kp hr1 r1 hp1 => by
    split at hp1
    · rename_i hz
      exact ⟨Nat.le_trans (by rw [← r1.len]; exact hz) szl_le, fun p np => allocd hr1 r1 np hp1⟩
    · exact hp1.elim⟩
/-! calls -/
def spOf (K : PySem.W.Frag) (mg : Str → Option Value) (np : Nat) (F : List D → Hv → R D) : Sp := fun vs H Q E => vs.length = np ∧ ∃ L h ds, HR K L H h ∧ Rels K L H ds vs ∧ pR K mg L H (fun cv dx _ H' => E cv dx H') [] Q (F ds h)
theorem pR.at_ {K : PySem.W.Frag} {mg : Str → Option Value} {L : List Addr} {H : Hp} {σ τ : L2.St} {W W' : WX} {Q : VK} {r : R D} (p : pR K mg L H W σ Q r) (w : ∀ cv dx H', W cv dx σ H' → W' cv dx τ H') : pR K mg L H W' τ Q r := by
  cases r with
  | ok d h => exact p
  | exc c d h => exact fun L' H' cv dx l k hr x => w _ _ _ (p L' H' cv dx l k hr x)
  | stuck => exact p
theorem r_call {x : Str} {p : Pos} {es : List Expr} (C : Or) {fs : List EF} {k : Nat} {f : Addr} {fd : FuncData} {ps : List Str} (tk : Takes X W)
    (F : FnOk X.prog X.w X.K X.mg X.base (L2.CX X.prog X.w) k f fd ps (spOf X.K X.mg ps.length (C x))) (hl : ∀ ds h, ds.length ≠ ps.length → C x ds h = .stuck) (hr : Room k X.A) (hg : Gl X x) (hm : X.mg x = some (.ref f)) (hk : PySem.W.keepIn X.K (.ref f) = true) (hb : Binds X.K fd ps [])
    (ha : PA X (e :: es) (tA X W (listF fs C))) (hdb : (x == ("__debug__" : Str)) = false) (he : starEach (e :: es) X.env = (false, eval e X.env) :: starEach es X.env) (hpl : (backTo pos (starEach es X.env)).any (·.1) = false) :
    PE X (.Call (.Name x p) (e :: es) [] pos) (tE X W (callF x fs C)) :=
  PE.weak (pe_callS F hr hg hm hk hb (fun σ => passAt tk σ) ha hdb he hpl) fun σ H Q ⟨L, h, env, hr, sr, hp⟩ => ⟨L, h, env, hr, sr, pRg.then_ hp fun ds h1 L1 H1 vs le kp hr1 r1 hp1 => by
    refine ⟨?_, L1, h1, ds, hr1, r1, pR.at_ hp1 fun _ _ _ w => w⟩
    by_cases q : ds.length = ps.length
    · rw [← r1.len]; exact q
    · have hp2 : pR X.K X.mg L1 H1 W σ Q (C x ds h1) := hp1
      rw [hl ds h1 q] at hp2
      exact hp2.elim⟩
theorem r_cb {x : Str} {id : String} {p : Pos} {es : List Expr} {g : List D → Hv → R D} {r : List V → Hp → VK → Prop} (C : Or) {fs : List EF} (o : OkC X W g r) (hc : CallR X (.builtin id) r) (hg : Gl X x) (hm : X.mg x = none) (hv : bootBuiltins x = some (.builtin id)) (ha : PA X (e :: es) (tA X W (listF fs C)))
    (hn : x ≠ "__name__") (hdb : (x == ("__debug__" : Str)) = false) (he : starEach (e :: es) X.env = (false, eval e X.env) :: starEach es X.env) (hpl : (backTo pos (starEach es X.env)).any (·.1) = false) : PE X (.Call (.Name x p) (e :: es) [] pos) (tE X W (bltF g fs C)) :=
  PE.weak (pe_callB hc hg hm hv ha hn hdb he hpl) fun σ H Q ⟨L, h, env, hr, sr, hp⟩ => ⟨L, h, env, hr, sr, pRg.then_ hp fun ds h1 L1 H1 vs le kp hr1 r1 hp1 => o L1 H1 h1 σ ds vs Q hr1 r1 hp1⟩
theorem r_ct {x : Str} {T : String} {p : Pos} {es : List Expr} {g : List D → Hv → R D} {r : List V → Hp → VK → Prop} (C : Or) {fs : List EF} (o : OkC X W g r) (hc : CallR X (.type T) r) (hg : Gl X x) (hm : X.mg x = none) (hv : bootBuiltins x = some (.type T)) (ha : PA X (e :: es) (tA X W (listF fs C)))
    (hn : x ≠ "__name__") (hdb : (x == ("__debug__" : Str)) = false) (he : starEach (e :: es) X.env = (false, eval e X.env) :: starEach es X.env) (hpl : (backTo pos (starEach es X.env)).any (·.1) = false) : PE X (.Call (.Name x p) (e :: es) [] pos) (tE X W (bltF g fs C)) :=
  PE.weak (pe_callTy hc hg hm hv ha hn hdb he hpl) fun σ H Q ⟨L, h, env, hr, sr, hp⟩ => ⟨L, h, env, hr, sr, pRg.then_ hp fun ds h1 L1 H1 vs le kp hr1 r1 hp1 => o L1 H1 h1 σ ds vs Q hr1 r1 hp1⟩
/-! slices -/
theorem o_none (C : Or) : PO X none (tO X W (optF none C)) := PO.weak po_none fun σ H Q ⟨L, h, env, hr, sr, hp⟩ => hp L H none (LE.refl _) (Keep.refl _) hr rfl
theorem o_some (C : Or) {fa : EF} (ha : PE X a (tE X W (fa C))) : PO X (some a) (tO X W (optF (some fa) C)) :=
  PO.weak (po_some ha) fun σ H Q ⟨L, h, env, hr, sr, hp⟩ => ⟨L, h, env, hr, sr, pRg.then_ hp fun d1 h1 L1 H1 v1 le kp hr1 r1 hp1 => by
    cases r1 with
    | int i => exact ⟨i, rfl, hp1 L1 H1 _ (LE.refl _) (Keep.refl _) hr1 rfl⟩
    | _ => exact hp1.elim⟩
theorem r_slc {lo hi : Option Expr} {p2 : Pos} {g : D → Option Int → Option Int → Hv → R D} {r : V → Option Int → Option Int → Hp → VK → Prop} (C : Or) {fa : EF} {fl fh : Option EF}
    (o : ∀ L H h σ d v l u Q, HR X.K L H h → Rel X.K L H d v → pR X.K X.mg L H W σ Q (g d l u h) → r v l u H Q) (hs : SlR X r) (ha : PE X a (tE X W (fa C))) (hl : PO X lo (tO X W (optF fl C))) (hh : PO X hi (tO X W (optF fh C))) :
    PE X (.Subscript a (.Slice lo hi none p2) pos) (tE X W (slcF g fa fl fh C)) :=
  PE.weak (pe_slice hs ha hl hh) fun σ H Q ⟨L, h, env, hr, sr, hp⟩ => ⟨L, h, env, hr, sr, pRg.then_ hp fun d1 h1 L1 H1 v1 le kp hr1 r1 hp1 => ⟨L1, h1, env, hr1, sr.mono le kp, pRg.then_ hp1 fun l h2 L2 H2 l' le2 kp2 hr2 e2 hp2 => by
    subst e2
    exact ⟨L2, h2, env, hr2, (sr.mono le kp).mono le2 kp2, pRg.then_ hp2 fun u h3 L3 H3 u' le3 kp3 hr3 e3 hp3 => by
      subst e3
      exact o L3 H3 h3 σ d1 v1 l u Q hr3 (r1.mono (le2.trans le3) (kp2.trans kp3)) hp3⟩⟩⟩
end
end VM

set_option maxRecDepth 100000
set_option maxHeartbeats 1000000
namespace VM
open PySem PySem.Spec PyProof.Rows L2
section
variable {X : Cx} {W : WX}
def rAddA (K : PySem.W.Frag) : R2 := fun x y H Q => rI0 (fun i j => .int (i + j)) x y H Q ∨ ((fun x y H Q => ∃ i j, x = .str i ∧ y = .str j ∧ i.length + j.length ≤ sizeLine ∧ Q (.str (i ++ j)) H) : R2) x y H Q ∨ rCatA K x y H Q ∨ rCat x y H Q
theorem op_addA : OpR X (binaryOp .Add) (rAddA X.K) := op_add.or (op_add_str.or (op_catA.or op_cat))
theorem o_add : OkR X W opAdd (rAddA X.K) := by
  intro L H h σ d1 d2 v1 v2 Q hr r1 r2 hp
  cases r1 with
  | int i =>
    cases r2 with
    | int j => exact .inl ⟨i, j, rfl, rfl, here hr hp (.int _)⟩
    | _ => exact hp.elim
  | str i =>
    cases r2 with
    | str j =>
      simp only [opAdd] at hp
      split at hp
      · rename_i hz
        exact .inr (.inl ⟨i, j, rfl, rfl, Nat.le_trans hz szl_le, here hr hp (.str _)⟩)
      · exact hp.elim
    | _ => exact hp.elim
  | @tup ds a xs ha ra =>
    cases r2 with
    | @tup es b ys hb rb =>
      simp only [opAdd] at hp
      split at hp
      · rename_i hz
        refine .inr (.inr (.inl ⟨a, b, xs, ys, rfl, rfl, ha, hb, ?_, fun e => ?_, fun e e2 => ?_, fun e e2 p np => ?_⟩))
        · rw [← ra.len, ← rb.len]; exact Nat.le_trans hz szl_le
        · refine here hr hp (.tup hb ?_)
          subst e
          cases ra
          exact rb
        · refine here hr hp (.tup ha ?_)
          subst e2
          cases rb
          rw [List.append_nil]
          exact ra
        · exact hp L _ _ (LE.refl _) (Keep.new np) (hr.new np) (.tup (.inl (.inl upd_same)) ((ra.app rb).mono (LE.refl _) (Keep.new np)))
      · exact hp.elim
    | _ => exact hp.elim
  | @ref i a ea =>
    cases r2 with
    | @ref j b eb =>
      simp only [opAdd] at hp
      split at hp
      · rename_i ds es e1 e2
        split at hp
        · rename_i hz
          obtain ⟨xs, q1, s1⟩ := hr.lst i a ds e1 ea
          obtain ⟨ys, q2, s2⟩ := hr.lst j b es e2 eb
          exact .inr (.inr (.inr ⟨a, b, xs, ys, rfl, rfl, q1, q2, by rw [← s1.len, ← s2.len]; exact Nat.le_trans hz szl_le, fun p np => allocd hr (s1.app s2) np hp⟩))
        · exact hp.elim
      · exact hp.elim
    | _ => exact hp.elim
  | _ => exact hp.elim
theorem o_sub : OkR X W opSub (rI0 fun i j => .int (i - j)) := by
  intro L H h σ d1 d2 v1 v2 Q hr r1 r2 hp
  cases r1 <;> cases r2 <;> first
    | exact hp.elim
    | exact ⟨_, _, rfl, rfl, here hr hp (.int _)⟩
theorem o_cmpI (p : Int → Int → Bool) : OkR X W (cmpI p) (rI0 fun i j => .bl (p i j)) := by
  intro L H h σ d1 d2 v1 v2 Q hr r1 r2 hp
  cases r1 <;> cases r2 <;> first
    | exact hp.elim
    | exact ⟨_, _, rfl, rfl, here hr hp (.bl _)⟩
theorem o_mod : OkR X W opMod (rI (fun _ j => 0 < j) fun i j => .int (i % j)) := by
  intro L H h σ d1 d2 v1 v2 Q hr r1 r2 hp
  cases r1 <;> cases r2 <;> try exact hp.elim
  simp only [opMod] at hp
  split at hp
  · rename_i hz
    exact ⟨_, _, rfl, rfl, hz, here hr hp (.int _)⟩
  · exact hp.elim
theorem o_fdiv : OkR X W opFdiv (rI CDivW fun i j => .int (i / j)) := by
  intro L H h σ d1 d2 v1 v2 Q hr r1 r2 hp
  cases r1 <;> cases r2 <;> try exact hp.elim
  simp only [opFdiv] at hp
  split at hp
  · rename_i hz
    exact ⟨_, _, rfl, rfl, wide_div hz.1 hz.2 (by decide) (by decide), here hr hp (.int _)⟩
  · exact hp.elim
theorem o_pow : OkR X W opPow (rI CPow fun i j => .int (i ^ j.toNat)) := by
  intro L H h σ d1 d2 v1 v2 Q hr r1 r2 hp
  cases r1 <;> cases r2 <;> try exact hp.elim
  simp only [opPow] at hp
  split at hp
  · rename_i hz
    exact ⟨_, _, rfl, rfl, ⟨hz.1, by omega, hz.2.2⟩, here hr hp (.int _)⟩
  · exact hp.elim
theorem o_neg : OkU X W opNeg (rU fun i => .int (-i)) := by
  intro L H h σ d v Q hr r hp
  cases r <;> first
    | exact hp.elim
    | exact ⟨_, rfl, here hr hp (.int _)⟩
theorem o_is : OkR X W (opIs false) (fun x y H Q => (∃ a b, x = .bl a ∧ y = .bl b ∧ Q (.bl (decide (a = b))) H) ∨ (y = .non ∧ Q (.bl (decide (x = .non))) H)) := by
  intro L H h σ d1 d2 v1 v2 Q hr r1 r2 hp
  cases r2 <;> cases r1 <;> first
    | exact hp.elim
    | exact .inl ⟨_, _, rfl, rfl, here hr hp (.bl _)⟩
    | exact .inr ⟨rfl, here hr hp (by simp <;> exact .bl _)⟩
theorem o_isnot : OkR X W (opIs true) (fun x y H Q => (∃ a b, x = .bl a ∧ y = .bl b ∧ Q (.bl (!decide (a = b))) H) ∨ (y = .non ∧ Q (.bl (!decide (x = .non))) H)) := by
  intro L H h σ d1 d2 v1 v2 Q hr r1 r2 hp
  cases r2 <;> cases r1 <;> first
    | exact hp.elim
    | exact .inl ⟨_, _, rfl, rfl, here hr hp (.bl _)⟩
    | exact .inr ⟨rfl, here hr hp (by simp <;> exact .bl _)⟩
theorem op_is2 : OpR X (compareOp .Is) (fun x y H Q => (∃ a b, x = .bl a ∧ y = .bl b ∧ Q (.bl (decide (a = b))) H) ∨ (y = .non ∧ Q (.bl (decide (x = .non))) H)) := by
  intro pins s σ H x y v u Q I rx ry h
  rcases h with h | h
  · exact op_is_bl pins s σ H x y v u Q I rx ry h
  · exact op_isN pins s σ H x y v u Q I rx ry h
theorem op_isnot2 : OpR X (compareOp .IsNot) (fun x y H Q => (∃ a b, x = .bl a ∧ y = .bl b ∧ Q (.bl (!decide (a = b))) H) ∨ (y = .non ∧ Q (.bl (!decide (x = .non))) H)) := by
  intro pins s σ H x y v u Q I rx ry h
  rcases h with h | h
  · exact op_isnot_bl pins s σ H x y v u Q I rx ry h
  · exact op_notN pins s σ H x y v u Q I rx ry h
/-! == -/
mutual
theorem dp_of {K : PySem.W.Frag} {L : List Addr} {H : Hp} {h : Hv} (hr : HR K L H h) : ∀ (n : Nat) (d : D) (v : V) (p : PyData), Rel K L H d v → toP h n d = some p → Dp K H v p ∧ p.canLay0 = true ∧ p.depth ≤ n
  | n, .non, _, p, r, e => by cases r; cases n <;> (simp only [toP, Option.some.injEq] at e; subst e; exact ⟨.non, rfl, Nat.zero_le _⟩)
  | n, .bl b, _, p, r, e => by cases r; cases n <;> (simp only [toP, Option.some.injEq] at e; subst e; exact ⟨.bl b, rfl, Nat.zero_le _⟩)
  | n, .int b, _, p, r, e => by cases r; cases n <;> (simp only [toP, Option.some.injEq] at e; subst e; exact ⟨.int b, rfl, Nat.zero_le _⟩)
  | n, .str b, _, p, r, e => by
    cases r
    have e2 : (if PyData.strOk b = true then some (PyData.str b) else none) = some p := by cases n <;> (simp only [toP] at e; exact e)
    split at e2
    · rename_i z
      cases e2
      exact ⟨.str b, by simp only [PyData.canLay0]; exact z, Nat.zero_le _⟩
    · cases e2
  | 0, .tup ds, _, p, r, e => by simp [toP] at e
  | n + 1, .tup ds, _, p, r, e => by
    cases r with
    | tup ha ra =>
      simp only [toP, Option.map_eq_some_iff] at e
      obtain ⟨ps, e1, rfl⟩ := e
      obtain ⟨h1, h2, h3⟩ := dps_of hr n ds _ ps ra e1
      exact ⟨.tup ha h1, by simp only [PyData.canLay0]; exact h2, by simp only [PyData.depth]; omega⟩
  | 0, .ref i, _, p, r, e => by simp [toP] at e
  | n + 1, .ref i, _, p, r, e => by
    cases r with
    | ref ea =>
      simp only [toP] at e
      split at e
      · rename_i ds e0
        simp only [Option.map_eq_some_iff] at e
        obtain ⟨ps, e1, rfl⟩ := e
        obtain ⟨xs, q, s⟩ := hr.lst i _ ds e0 ea
        obtain ⟨h1, h2, h3⟩ := dps_of hr n ds _ ps s e1
        exact ⟨.lst (SqL.of q) h1, by simp only [PyData.canLay0]; exact h2, by simp only [PyData.depth]; omega⟩
      · cases e
termination_by n d => (n, 0, sizeOf d)
theorem dps_of {K : PySem.W.Frag} {L : List Addr} {H : Hp} {h : Hv} (hr : HR K L H h) : ∀ (n : Nat) (ds : List D) (vs : List V) (ps : List PyData), Rels K L H ds vs → toPs h n ds = some ps → DpAll K H vs ps ∧ PyData.canLayAll0 ps = true ∧ PyData.depthAll ps ≤ n
  | n, [], _, ps, r, e => by
    cases r
    have e2 : (some [] : Option (List PyData)) = some ps := by cases n <;> (simp only [toPs] at e; exact e)
    cases e2
    exact ⟨.nil, rfl, Nat.zero_le _⟩
  | n, d :: ds, _, ps, r, e => by
    cases r with
    | cons r1 r2 =>
      have e2 : (match toP h n d with
        | some p => (match toPs h n ds with
          | some ps => some (p :: ps)
          | none => none)
        | none => none) = some ps := by cases n <;> (simp only [toPs] at e; exact e)
      split at e2
      · rename_i p ep
        split at e2
        · rename_i qs eq
          cases e2
          obtain ⟨h1, h2, h3⟩ := dp_of hr n d _ p r1 ep
          obtain ⟨k1, k2, k3⟩ := dps_of hr n ds _ qs r2 eq
          exact ⟨.cons h1 k1, by simp only [PyData.canLayAll0, h2, k2, Bool.and_self], by simp only [PyData.depthAll]; omega⟩
        · cases e2
      · cases e2
termination_by n ds => (n, 1, sizeOf ds)
end
theorem shaped_of {p : PyData} (h : p.canLay0 = true) (h2 : p.depth ≤ 60) : SeqAt.shaped p = true := by
  unfold SeqAt.shaped
  rw [h, Bool.true_and]
  exact decide_eq_true (by omega)
theorem o_eq : OkR X W (opEqD false) (rEqD X.K) := by
  intro L H h σ d1 d2 v1 v2 Q hr r1 r2 hp
  simp only [opEqD] at hp
  split at hp
  · rename_i p q e1 e2
    obtain ⟨a1, a2, a3⟩ := dp_of hr 60 d1 v1 p r1 e1
    obtain ⟨b1, b2, b3⟩ := dp_of hr 60 d2 v2 q r2 e2
    exact ⟨p, q, a1, b1, shaped_of a2 a3, shaped_of b2 b3, here hr hp (.bl _)⟩
  · exact hp.elim
theorem o_ne : OkR X W (opEqD true) (rNeD X.K) := by
  intro L H h σ d1 d2 v1 v2 Q hr r1 r2 hp
  simp only [opEqD] at hp
  split at hp
  · rename_i p q e1 e2
    obtain ⟨a1, a2, a3⟩ := dp_of hr 60 d1 v1 p r1 e1
    obtain ⟨b1, b2, b3⟩ := dp_of hr 60 d2 v2 q r2 e2
    exact ⟨p, q, a1, b1, shaped_of a2 a3, shaped_of b2 b3, here hr hp (.bl _)⟩
  · exact hp.elim
/-! sequences -/
theorem seq_of {K : PySem.W.Frag} {L : List Addr} {H : Hp} {h : Hv} (hr : HR K L H h) {d : D} {v : V} (r : Rel K L H d v) {z : List D × Guards} (e : seqOf d h = some z) :
    ∃ a xs, v = .ref a ∧ (SqL K H a xs ∨ SqT K H a xs) ∧ Rels K L H z.1 xs := by
  cases r with
  | tup ha ra =>
    simp only [seqOf, Option.some.injEq] at e
    subst e
    exact ⟨_, _, rfl, .inr ha, ra⟩
  | @ref i a ea =>
    simp only [seqOf] at e
    split at e
    · rename_i ds e0
      cases e
      obtain ⟨xs, q, s⟩ := hr.lst i a ds e0 ea
      exact ⟨a, xs, rfl, .inl (SqL.of q), s⟩
    · rename_i ds e0
      cases e
      obtain ⟨xs, q, s⟩ := hr.ro i a ds e0 ea
      exact ⟨a, xs, rfl, .inl q.seq, s⟩
    · cases e
  | _ => cases e
theorem flat_of {K : PySem.W.Frag} {L : List Addr} {H : Hp} {d : D} {v : V} (r : Rel K L H d v) (f : flatD d = true) : flatV v = true := by
  cases r <;> first
    | rfl
    | cases f
theorem flats_of {K : PySem.W.Frag} {L : List Addr} {H : Hp} : ∀ {ds : List D} {vs : List V}, Rels K L H ds vs → ds.all flatD = true → vs.all flatV = true
  | _, _, .nil, _ => rfl
  | _, _, .cons r t, f => by
    rw [List.all_cons, Bool.and_eq_true] at f
    rw [List.all_cons, flat_of r f.1, flats_of t f.2]; rfl
theorem eqV_of {K : PySem.W.Frag} {L : List Addr} {H : Hp} {d e : D} {v u : V} (r : Rel K L H d v) (q : Rel K L H e u) (f : flatD d = true) (g : flatD e = true) : eqV v u = eqD d e := by
  cases r <;> cases q <;> first
    | rfl
    | cases f
    | cases g
theorem inV_of {K : PySem.W.Frag} {L : List Addr} {H : Hp} {d : D} {v : V} (r : Rel K L H d v) (f : flatD d = true) : ∀ {ds : List D} {vs : List V}, Rels K L H ds vs → ds.all flatD = true → inV v vs = ds.any fun y => eqD y d
  | _, _, .nil, _ => rfl
  | _, _, .cons q t, g => by
    rw [List.all_cons, Bool.and_eq_true] at g
    have ih := inV_of r f t g.2
    unfold inV at ih ⊢
    rw [List.any_cons, List.any_cons, ih, eqV_of q r g.1 f]
theorem o_in (neg : Bool) : OkR X W (opIn neg) (rIn X.K neg) := by
  intro L H h σ d1 d2 v1 v2 Q hr r1 r2 hp
  simp only [opIn] at hp
  split at hp
  · rename_i z e
    split at hp
    · rename_i f
      obtain ⟨a, xs, rfl, sq, s⟩ := seq_of hr r2 e
      refine ⟨a, xs, rfl, sq, flat_of r1 f.1, flats_of s f.2, ?_⟩
      rw [inV_of r1 f.1 s f.2]
      exact here hr hp (.bl _)
    · exact hp.elim
  · exact hp.elim
theorem atI_of {K : PySem.W.Frag} {L : List Addr} {H : Hp} {ds : List D} {vs : List V} (r : Rels K L H ds vs) {i : Int} {d : D} (e : atI ds i = some d) : ∃ v, atI vs i = some v ∧ Rel K L H d v := by
  unfold atI at e ⊢
  rw [r.len] at e
  cases q : ixN vs.length i with
  | none => rw [q] at e; cases e
  | some j =>
    rw [q] at e
    exact r.get e
theorem o_ix : OkR X W opIx (rIx X.K) := by
  intro L H h σ d1 d2 v1 v2 Q hr r1 r2 hp
  cases r2 with
  | int i =>
    have gen : ∀ {z : List D × Guards}, seqOf d1 h = some z → ∀ {d}, atI z.1 i = some d → pR X.K X.mg L H W σ Q (.ok d h) → rIx X.K v1 (.int i) H Q := fun {z} ez {d} ed hq => by
      obtain ⟨a, xs, rfl, sq, s⟩ := seq_of hr r1 ez
      obtain ⟨v, e1, r⟩ := atI_of s ed
      rcases sq with sq | sq
      · exact .inl ⟨a, xs, i, v, rfl, rfl, sq, e1, here hr hq r⟩
      · exact .inr (.inl ⟨a, xs, i, v, rfl, rfl, sq, e1, here hr hq r⟩)
    cases r1 with
    | str z =>
      simp only [opIx] at hp
      split at hp
      · rename_i hz
        split at hp
        · rename_i c e
          exact .inr (.inr ⟨z, i, c, rfl, rfl, Nat.le_trans hz szl_le, e, here hr hp (.str _)⟩)
        · exact hp.elim
      · exact hp.elim
    | tup ha ra =>
      simp only [opIx] at hp
      split at hp
      · rename_i z e
        split at hp
        · rename_i d e2
          exact gen e e2 hp
        · exact hp.elim
      · exact hp.elim
    | ref ea =>
      simp only [opIx] at hp
      split at hp
      · rename_i z e
        split at hp
        · rename_i d e2
          exact gen e e2 hp
        · exact hp.elim
      · exact hp.elim
    | _ => exact hp.elim
  | _ => exact hp.elim
def rSlB (K : PySem.W.Frag) : V → Option Int → Option Int → Hp → VK → Prop := fun x lo hi H Q => rSlA K x lo hi H Q ∨ rSlL K x lo hi H Q
theorem sl_B : SlR X (rSlB X.K) := sl_tupA.or sl_list
theorem o_sl : ∀ L H h (σ : L2.St) d v l u Q, HR X.K L H h → Rel X.K L H d v → pR X.K X.mg L H W σ Q (opSl d l u h) → rSlB X.K v l u H Q := by
  intro L H h σ d v l u Q hr r hp
  cases r with
  | @tup ds a xs ha ra =>
    refine .inl ⟨a, xs, rfl, ha, fun e => here hr hp (.tup ha ?_), fun e p np => hp L _ _ (LE.refl _) (Keep.new np) (hr.new np) (.tup (.inl (.inl upd_same)) ((ra.cut l u).mono (LE.refl _) (Keep.new np)))⟩
    have z := ra.cut l u
    unfold cutV at z
    rw [e.1, e.2, List.drop_zero, Nat.sub_zero, List.take_length] at z
    exact z
  | @ref i a ea =>
    simp only [opSl] at hp
    split at hp
    · rename_i ds e0
      obtain ⟨xs, q, s⟩ := hr.lst i a ds e0 ea
      exact .inr ⟨a, xs, rfl, SqL.of q, fun p np => allocd hr (s.cut l u) np hp⟩
    · exact hp.elim
  | _ => exact hp.elim
/-! built-ins -/
def rLenB (K : PySem.W.Frag) : List V → Hp → VK → Prop := fun xs H Q => (∃ p ys, xs = [V.ref p] ∧ (SqL K H p ys ∨ SqT K H p ys) ∧ Q (.int ys.length) H) ∨ ∃ z : Str, xs = [V.str z] ∧ z.length ≤ sizeLine ∧ Q (.int z.length) H
theorem c_len : CallR X (.builtin "len") (rLenB X.K) := call_len_seq.or call_len_str
theorem one_of {K : PySem.W.Frag} {L : List Addr} {H : Hp} {d : D} {vs : List V} (r : Rels K L H [d] vs) : ∃ v, vs = [v] ∧ Rel K L H d v := by
  cases r with
  | cons a b => cases b; exact ⟨_, rfl, a⟩
theorem o_len : OkC X W bLen (rLenB X.K) := by
  intro L H h σ ds vs Q hr rs hp
  have gen : ∀ {d : D}, ds = [d] → ∀ {z}, seqOf d h = some z → pR X.K X.mg L H W σ Q (.ok (.int z.1.length) h) → rLenB X.K vs H Q := fun {d} e1 {z} e2 hq => by
    subst e1
    obtain ⟨v, rfl, r⟩ := one_of rs
    obtain ⟨a, xs, rfl, sq, s⟩ := seq_of hr r e2
    exact .inl ⟨a, xs, rfl, sq, here hr hq (by rw [s.len]; exact .int _)⟩
  unfold bLen at hp
  split at hp
  · rename_i z
    split at hp
    · rename_i hz
      obtain ⟨v, rfl, r⟩ := one_of rs
      cases r
      exact .inr ⟨z, rfl, Nat.le_trans hz szl_le, here hr hp (.int _)⟩
    · exact hp.elim
  · split at hp
    · rename_i z e
      exact gen rfl e hp
    · exact hp.elim
  · exact hp.elim
theorem o_abs : OkC X W bAbs (fun xs H Q => ∃ i, xs = [V.int i] ∧ Q (.int (if i < 0 then -i else i)) H) := by
  intro L H h σ ds vs Q hr rs hp
  unfold bAbs at hp
  split at hp
  · obtain ⟨v, rfl, r⟩ := one_of rs
    cases r
    exact ⟨_, rfl, here hr hp (.int _)⟩
  · exact hp.elim
theorem o_int : OkC X W bInt (fun xs H Q => (∃ i, xs = [V.int i] ∧ Q (.int i) H) ∨ ∃ k, xs = [V.bl k] ∧ Q (.int (if k then 1 else 0)) H) := by
  intro L H h σ ds vs Q hr rs hp
  unfold bInt at hp
  split at hp
  · obtain ⟨v, rfl, r⟩ := one_of rs
    cases r
    exact .inl ⟨_, rfl, here hr hp (.int _)⟩
  · obtain ⟨v, rfl, r⟩ := one_of rs
    cases r
    exact .inr ⟨_, rfl, here hr hp (.int _)⟩
  · exact hp.elim
theorem two_of {K : PySem.W.Frag} {L : List Addr} {H : Hp} {d e : D} {vs : List V} (r : Rels K L H [d, e] vs) : ∃ v u, vs = [v, u] ∧ Rel K L H d v ∧ Rel K L H e u := by
  cases r with
  | cons a b =>
    obtain ⟨u, rfl, q⟩ := one_of b
    exact ⟨_, u, rfl, a, q⟩
theorem o_max : OkC X W bMax (fun xs H Q => ∃ i j, xs = [V.int i, .int j] ∧ Q (.int (if j > i then j else i)) H) := by
  intro L H h σ ds vs Q hr rs hp
  unfold bMax at hp
  split at hp
  · obtain ⟨v, u, rfl, r, q⟩ := two_of rs
    cases r
    cases q
    exact ⟨_, _, rfl, here hr hp (.int _)⟩
  · exact hp.elim
theorem o_min : OkC X W bMin (fun xs H Q => ∃ i j, xs = [V.int i, .int j] ∧ Q (.int (if j < i then j else i)) H) := by
  intro L H h σ ds vs Q hr rs hp
  unfold bMin at hp
  split at hp
  · obtain ⟨v, u, rfl, r, q⟩ := two_of rs
    cases r
    cases q
    exact ⟨_, _, rfl, here hr hp (.int _)⟩
  · exact hp.elim
theorem ints_of {K : PySem.W.Frag} {L : List Addr} {H : Hp} : ∀ {ds : List D} {vs : List V} {ns : List Int}, Rels K L H ds vs → intsD ds = some ns → vs = ns.map V.int
  | _, _, _, .nil, e => by simp only [intsD, Option.some.injEq] at e; subst e; rfl
  | d :: ds, _, _, .cons r t, e => by
    cases r with
    | int i =>
      simp only [intsD, Option.map_eq_some_iff] at e
      obtain ⟨ms, e1, rfl⟩ := e
      rw [List.map_cons, ints_of t e1]
    | _ => simp [intsD] at e
theorem bls_of {K : PySem.W.Frag} {L : List Addr} {H : Hp} : ∀ {ds : List D} {vs : List V} {ns : List Bool}, Rels K L H ds vs → blsD ds = some ns → vs = ns.map V.bl
  | _, _, _, .nil, e => by simp only [blsD, Option.some.injEq] at e; subst e; rfl
  | d :: ds, _, _, .cons r t, e => by
    cases r with
    | bl i =>
      simp only [blsD, Option.map_eq_some_iff] at e
      obtain ⟨ms, e1, rfl⟩ := e
      rw [List.map_cons, bls_of t e1]
    | _ => simp [blsD] at e
theorem lst_of {K : PySem.W.Frag} {L : List Addr} {H : Hp} {h : Hv} (hr : HR K L H h) {d : D} {v : V} (r : Rel K L H d v) {z : List D} (e : lstAt d h = some z) : ∃ a xs, v = .ref a ∧ SqL K H a xs ∧ Rels K L H z xs := by
  cases r with
  | @ref i a ea =>
    simp only [lstAt] at e
    split at e
    · rename_i ds e0
      cases e
      obtain ⟨xs, q, s⟩ := hr.lst i a _ e0 ea
      exact ⟨a, xs, rfl, SqL.of q, s⟩
    · rename_i ds e0
      cases e
      obtain ⟨xs, q, s⟩ := hr.ro i a _ e0 ea
      exact ⟨a, xs, rfl, q.seq, s⟩
    · cases e
  | _ => cases e
theorem o_sum : OkC X W bSum (rSum X.K) := by
  intro L H h σ ds vs Q hr rs hp
  unfold bSum at hp
  split at hp
  · split at hp
    · rename_i ns e
      obtain ⟨v, rfl, r⟩ := one_of rs
      obtain ⟨z, e1, e2⟩ := Option.bind_eq_some_iff.mp e
      obtain ⟨a, xs, rfl, sq, s⟩ := lst_of hr r e1
      have e3 := ints_of s e2
      subst e3
      exact ⟨a, ns, rfl, sq, here hr hp (.int _)⟩
    · exact hp.elim
  · exact hp.elim
theorem o_all : OkC X W bAll (rAll X.K) := by
  intro L H h σ ds vs Q hr rs hp
  unfold bAll at hp
  split at hp
  · split at hp
    · rename_i ns e
      obtain ⟨v, rfl, r⟩ := one_of rs
      obtain ⟨z, e1, e2⟩ := Option.bind_eq_some_iff.mp e
      obtain ⟨a, xs, rfl, sq, s⟩ := lst_of hr r e1
      have e3 := bls_of s e2
      subst e3
      exact ⟨a, ns, rfl, sq, here hr hp (.bl _)⟩
    · exact hp.elim
  · exact hp.elim
theorem o_any : OkC X W bAny (rAny X.K) := by
  intro L H h σ ds vs Q hr rs hp
  unfold bAny at hp
  split at hp
  · split at hp
    · rename_i ns e
      obtain ⟨v, rfl, r⟩ := one_of rs
      obtain ⟨z, e1, e2⟩ := Option.bind_eq_some_iff.mp e
      obtain ⟨a, xs, rfl, sq, s⟩ := lst_of hr r e1
      have e3 := bls_of s e2
      subst e3
      exact ⟨a, ns, rfl, sq, here hr hp (.bl _)⟩
    · exact hp.elim
  · exact hp.elim
theorem o_tuple : OkC X W bTuple (fun xs H Q => ∃ p ys, xs = [V.ref p] ∧ ((SqL X.K H p ys ∧ ∀ l, H l = none → Q (.ref l) (upd H l (.tup ys))) ∨ (SqT X.K H p ys ∧ Q (.ref p) H))) := by
  intro L H h σ ds vs Q hr rs hp
  unfold bTuple at hp
  split at hp
  · split at hp
    · rename_i z e
      obtain ⟨v, rfl, r⟩ := one_of rs
      obtain ⟨a, xs, rfl, sq, s⟩ := seq_of hr r e
      refine ⟨a, xs, rfl, ?_⟩
      rcases sq with sq | sq
      · exact .inl ⟨sq, fun p np => hp L _ _ (LE.refl _) (Keep.new np) (hr.new np) (.tup (.inl (.inl upd_same)) (s.mono (LE.refl _) (Keep.new np)))⟩
      · exact .inr ⟨sq, here hr hp (.tup sq s)⟩
    · exact hp.elim
  · exact hp.elim
theorem o_list : OkC X W bList (fun xs H Q => ∃ p ys, xs = [V.ref p] ∧ (SqL X.K H p ys ∨ SqT X.K H p ys) ∧ ∀ l, H l = none → Q (.ref l) (upd H l (.lst ys))) := by
  intro L H h σ ds vs Q hr rs hp
  unfold bList at hp
  split at hp
  · split at hp
    · rename_i z e
      obtain ⟨v, rfl, r⟩ := one_of rs
      obtain ⟨a, xs, rfl, sq, s⟩ := seq_of hr r e
      exact ⟨a, xs, rfl, sq, fun p np => allocd hr s np hp⟩
    · exact hp.elim
  · exact hp.elim
end
end VM

set_option maxRecDepth 100000
set_option maxHeartbeats 1000000
namespace VM
open PySem PySem.Spec PyProof.Rows L2

/-! ends of statements -/
def pS (K : PySem.W.Frag) (mg : Str → Option Value) (L : List Addr) (H : Hp) (W : WX) (D_ : Ends) : SR → Prop
  | .nx env h' => ∀ L' H' σ', LE L L' → Keep K H H' → HR K L' H' h' → SRel K L' H' env σ' → D_.nx σ' H'
  | .bk env h' => ∀ L' H' σ', LE L L' → Keep K H H' → HR K L' H' h' → SRel K L' H' env σ' → D_.bk σ' H'
  | .ct env h' => ∀ L' H' σ', LE L L' → Keep K H H' → HR K L' H' h' → SRel K L' H' env σ' → D_.ct σ' H'
  | .rt d h' => ∀ L' H' v, LE L L' → Keep K H H' → HR K L' H' h' → Rel K L' H' d v → D_.rt v H'
  | .exc c d env h' => ∀ L' H' σ' cv dx, LE L L' → Keep K H H' → HR K L' H' h' → SRel K L' H' env σ' → ExR K mg L' H' c d cv dx → W cv dx σ' H'
  | .stuck => False
abbrev Fs := Env → Hv → SR
def tS (X : Cx) (W : WX) (f : Fs) : TS := fun D_ σ H => ∃ L h env, HR X.K L H h ∧ SRel X.K L H env σ ∧ pS X.K X.mg L H W D_ (f env h)
section
variable {K : PySem.W.Frag} {mg : Str → Option Value} {L L' : List Addr} {H H' : Hp} {h h' : Hv} {W : WX} {σ : L2.St} {D_ : Ends}
theorem pS.mono {r : SR} (p : pS K mg L H W D_ r) (le : LE L L') (kp : Keep K H H') : pS K mg L' H' W D_ r := by
  cases r with
  | nx e h1 => exact fun L2 H2 s l k => p L2 H2 s (le.trans l) (kp.trans k)
  | bk e h1 => exact fun L2 H2 s l k => p L2 H2 s (le.trans l) (kp.trans k)
  | ct e h1 => exact fun L2 H2 s l k => p L2 H2 s (le.trans l) (kp.trans k)
  | rt d h1 => exact fun L2 H2 s l k => p L2 H2 s (le.trans l) (kp.trans k)
  | exc c d e h1 => exact fun L2 H2 s cv dx l k => p L2 H2 s cv dx (le.trans l) (kp.trans k)
  | stuck => exact p
/-- an expression first -/
theorem pS.then_ {r : R D} {env : Env} {g : D → Hv → SR} {REST : VK} (sr : SRel K L H env σ) (p : pS K mg L H W D_ (r.thenS env g))
    (k : ∀ a h1 L1 H1 b, LE L L1 → Keep K H H1 → HR K L1 H1 h1 → Rel K L1 H1 a b → pS K mg L1 H1 W D_ (g a h1) → REST b H1) : pR K mg L H W σ REST r := by
  cases r with
  | ok a h1 => exact fun L1 H1 b le kp hr rl => k a h1 L1 H1 b le kp hr rl (pS.mono p le kp)
  | exc c d h1 => exact fun L1 H1 cv dx le kp hr ex => p L1 H1 σ cv dx le kp hr (sr.mono le kp) ex
  | stuck => exact p
theorem pS.thenT {r : R D} {env : Env} {g : D → Hv → SR} {REST : Bool → Hp → Prop} (sr : SRel K L H env σ) (p : pS K mg L H W D_ (r.thenS env g)) (st : ∀ d h, (∀ b, d ≠ .bl b) → g d h = .stuck)
    (k : ∀ b h1 L1 H1, LE L L1 → Keep K H H1 → HR K L1 H1 h1 → pS K mg L1 H1 W D_ (g (.bl b) h1) → REST b H1) : pT K mg L H W σ REST r := by
  cases r with
  | ok d h1 =>
    have p' : pS K mg L H W D_ (g d h1) := p
    cases d with
    | bl b => exact fun L1 H1 le kp hr => k b h1 L1 H1 le kp hr (p'.mono le kp)
    | _ => exact absurd p' (by rw [st _ h1 (by intro b z; cases z)]; exact id)
  | exc c d h1 => exact fun L1 H1 cv dx le kp hr ex => p L1 H1 σ cv dx le kp hr (sr.mono le kp) ex
  | stuck => exact p
end

/-! targets -/
def Off (fp : List Nat) (σ σ' : L2.St) : Prop := σ'.length = σ.length ∧ ∀ j, j ∉ fp → σ'[j]? = σ[j]?
theorem Off.trans {fp fq : List Nat} {σ σ1 σ2 : L2.St} (a : Off fp σ σ1) (b : Off fq σ1 σ2) : Off (fp ++ fq) σ σ2 :=
  ⟨b.1.trans a.1, fun j hj => (b.2 j fun z => hj (List.mem_append_right _ z)).trans (a.2 j fun z => hj (List.mem_append_left _ z))⟩
def tG (K : PySem.W.Frag) (fp : List Nat) (f : TF) : TG := fun v σ H Q => ∃ L h env d env', HR K L H h ∧ SRel K L H env σ ∧ Rel K L H d v ∧ f d env h = some env' ∧ ∀ σ', SRel K L H env' σ' → Off fp σ σ' → Q σ' H
def tGs (K : PySem.W.Frag) (fp : List Nat) (fs : List TF) : TGs := fun vs σ H Q => ∃ L h env ds env', HR K L H h ∧ SRel K L H env σ ∧ Rels K L H ds vs ∧ tgsT fs ds env h = some env' ∧ ∀ σ', SRel K L H env' σ' → Off fp σ σ' → Q σ' H
theorem PG.weak {X : Cx} {e : Expr} {t t' : TG} (h : PG X e t) (w : ∀ v σ H Q, t' v σ H Q → t v σ H Q) : PG X e t' := ⟨fun pins s σ H v u Q I r q => h.run pins s σ H v u Q I r (w v σ H Q q)⟩
theorem PGs.weak {X : Cx} {e : List Expr} {t t' : TGs} (h : PGs X e t) (w : ∀ v σ H Q, t' v σ H Q → t v σ H Q) : PGs X e t' := ⟨fun pins s σ H v u Q I r q => h.run pins s σ H v u Q I r (w v σ H Q q)⟩
section
variable {X : Cx} {W : WX} {pos : Pos}
theorem g_name {i : Nat} {x : Str} (hN : X.N.Nodup) (hi : X.N[i]? = some x) (hx : Loc X.env.scope x) (hf : X.fn x = true ∨ X.env.scope.names.lookup x = some .local) : PG X (.Name x pos) (tG X.K [i] (nmT i)) :=
  PG.weak (pg_name hN hi hx hf) fun v σ H Q ⟨L, h, env, d, env', hr, sr, r, e, q⟩ => by
    unfold nmT at e
    split at e
    · cases e
      exact q _ (sr.set r) ⟨List.length_set .., fun j hj => List.getElem?_set_ne (fun z => hj (by simp [z]))⟩
    · cases e
theorem gs_nil : PGs X [] (tGs X.K [] []) := PGs.weak pgs_nil fun v σ H Q ⟨L, h, env, ds, env', hr, sr, r, e, q⟩ => by
  cases r with
  | nil =>
    have e2 : some env = some env' := e
    cases e2
    exact ⟨rfl, q σ sr ⟨rfl, fun _ _ => rfl⟩⟩
  | cons _ _ => cases e
theorem gs_cons {e : Expr} {es : List Expr} {fp fq : List Nat} {f : TF} {fs : List TF} (h1 : PG X e (tG X.K fp f)) (h2 : PGs X es (tGs X.K fq fs)) (hs : (assignEach (e :: es) X.env).map (·.2) = assign e X.env :: (assignEach es X.env).map (·.2)) :
    PGs X (e :: es) (tGs X.K (fp ++ fq) (f :: fs)) := PGs.weak (pgs_cons h1 h2 hs) fun v σ H Q ⟨L, h, env, ds, env', hr, sr, r, e, q⟩ => by
  cases r with
  | nil => cases e
  | @cons d ds u us rd rs =>
    have e2 : (match f d env h with
      | some env1 => tgsT fs ds env1 h
      | none => none) = some env' := e
    split at e2
    · rename_i env1 e1
      exact ⟨u, us, rfl, L, h, env, d, env1, hr, sr, rd, e1, fun σ1 s1 o1 => ⟨L, h, env1, ds, env', hr, s1, rs, e2, fun σ2 s2 o2 => q σ2 s2 (o1.trans o2)⟩⟩
    · cases e2
theorem g_tup {es : List Expr} {k : Nat} {fp : List Nat} {fs : List TF} (hc : X.calm = true) (h : PGs X es (tGs X.K fp fs)) (hn : (assignEach es X.env).length = fs.length) (hst : (assignEach es X.env).findIdx? (·.1) = none) : PG X (.Tuple es k pos) (tG X.K fp (tupT fs)) := by
  have len : ∀ (fs : List TF) (ds : List D) (env env' : Env) (h : Hv), tgsT fs ds env h = some env' → ds.length = fs.length := by
    intro fs
    induction fs with
    | nil => intro ds env env' h e; cases ds with | nil => rfl | cons _ _ => cases e
    | cons f fs ih =>
      intro ds env env' h e
      cases ds with
      | nil => cases e
      | cons d ds =>
        simp only [tgsT] at e
        split at e
        · simp only [List.length_cons]; rw [ih _ _ _ _ e]
        · cases e
  refine ⟨fun pins s σ H v u Q I r hq => ?_⟩
  obtain ⟨L, h0, env, d, env', hr, sr, rd, e, q⟩ := hq
  cases rd with
  | @tup ds a xs ha ra =>
    have e2 : tgsT fs ds env h0 = some env' := e
    exact (pg_tup hc h hn hst).run pins s σ H _ u Q I r ⟨a, xs, rfl, ha, by rw [← ra.len]; exact len _ _ _ _ _ e2, L, h0, env, ds, env', hr, sr, ra, e2, q⟩
  | @ref i a ea =>
    simp only [tupT] at e
    split at e
    · rename_i ds e0
      obtain ⟨xs, q1, ra⟩ := hr.lst i a ds e0 ea
      exact (pg_lst hc h hn hst).run pins s σ H _ u Q I r ⟨a, xs, rfl, SqL.of q1, by rw [← ra.len]; exact len _ _ _ _ _ e, L, h0, env, ds, env', hr, sr, ra, e, q⟩
    · cases e
  | _ => cases e

/-! statements -/
variable {e c : Expr} {st : Stmt} {sts bs cs : List Stmt}
theorem s_nil : PSs X [] (tS X W fun env h => .nx env h) := PSs.weak pss_nil fun D_ σ H ⟨L, h, env, hr, sr, hp⟩ => hp L H σ (LE.refl _) (Keep.refl _) hr sr
theorem s_cons (C : Or) {f g : SF} (h1 : PS X st (tS X W (f C))) (h2 : PSs X sts (tS X W (g C))) : PSs X (st :: sts) (tS X W (seqS f g C)) :=
  PSs.weak (pss_cons h1 h2) fun D_ σ H ⟨L, h, env, hr, sr, hp⟩ => ⟨L, h, env, hr, sr, by
    unfold seqS at hp
    split at hp
    · rename_i env1 h1 e1
      rw [e1]
      exact fun L1 H1 σ1 le kp hr1 sr1 => ⟨L1, h1, env1, hr1, sr1, pS.mono hp le kp⟩
    · rename_i q
      cases z : f C env h with
      | nx e1 h1 => exact absurd z (q e1 h1)
      | bk _ _ => rw [z] at hp; exact hp
      | ct _ _ => rw [z] at hp; exact hp
      | rt _ _ => rw [z] at hp; exact hp
      | exc _ _ _ _ => rw [z] at hp; exact hp
      | stuck => rw [z] at hp; exact hp⟩
theorem s_pass (C : Or) : PS X (.Pass pos) (tS X W (nxS C)) := PS.weak ps_pass fun D_ σ H ⟨L, h, env, hr, sr, hp⟩ => hp L H σ (LE.refl _) (Keep.refl _) hr sr
theorem s_break (C : Or) : PS X (.Break pos) (tS X W (bkS C)) := PS.weak ps_break fun D_ σ H ⟨L, h, env, hr, sr, hp⟩ => hp L H σ (LE.refl _) (Keep.refl _) hr sr
theorem s_cont (C : Or) : PS X (.Continue pos) (tS X W (ctS C)) := PS.weak ps_continue fun D_ σ H ⟨L, h, env, hr, sr, hp⟩ => hp L H σ (LE.refl _) (Keep.refl _) hr sr
theorem s_exp (C : Or) {f : EF} (he : PE X e (tE X W (f C))) (hs : swapsWith e none pos.line X.env = pure false) : PS X (.Expr e pos) (tS X W (expS f C)) :=
  PS.weak (ps_expr he hs) fun D_ σ H ⟨L, h, env, hr, sr, hp⟩ => ⟨L, h, env, hr, sr, pS.then_ sr hp fun d h1 L1 H1 v le kp hr1 r1 hp1 => hp1 L1 H1 σ (LE.refl _) (Keep.refl _) hr1 (sr.mono le kp)⟩
theorem s_ret (C : Or) {f : EF} (he : PE X e (tE X W (f C))) : PS X (.Return (some e) pos) (tS X W (retS f C)) :=
  PS.weak (ps_ret he) fun D_ σ H ⟨L, h, env, hr, sr, hp⟩ => ⟨L, h, env, hr, sr, pS.then_ sr hp fun d h1 L1 H1 v le kp hr1 r1 hp1 => hp1 L1 H1 v (LE.refl _) (Keep.refl _) hr1 r1⟩
theorem s_retN (C : Or) : PS X (.Return none pos) (tS X W (retN C)) := PS.weak ps_retN fun D_ σ H ⟨L, h, env, hr, sr, hp⟩ => hp L H .non (LE.refl _) (Keep.refl _) hr .non
theorem s_if (C : Or) {fc : EF} {f g : SF} (hc : PT X c (tB X W (fc C))) (h1 : PSs X bs (tS X W (f C))) (h2 : PSs X cs (tS X W (g C))) : PS X (.If c bs cs pos) (tS X W (ifS fc f g C)) :=
  PS.weak (ps_if hc h1 h2) fun D_ σ H ⟨L, h, env, hr, sr, hp⟩ => ⟨L, h, env, hr, sr, pS.thenT sr hp (fun d h n => by cases d <;> first | rfl | exact absurd rfl (n _)) fun b h1 L1 H1 le kp hr1 hp1 => by
    cases b with
    | true => exact ⟨L1, h1, env, hr1, sr.mono le kp, hp1⟩
    | false => exact ⟨L1, h1, env, hr1, sr.mono le kp, hp1⟩⟩
/-- the wish of an assignment -/
theorem asg_ {t : TF} {fp : List Nat} (C : Or) {f : EF} {D_ : Ends} {σ : L2.St} {H : Hp} (q : tS X W (asgS t f C) D_ σ H) : tE X W (f C) σ H fun x H1 => tG X.K fp t x σ H1 D_.nx := by
  obtain ⟨L, h, env, hr, sr, hp⟩ := q
  refine ⟨L, h, env, hr, sr, pS.then_ sr hp fun d h1 L1 H1 v le kp hr1 r1 hp1 => ?_⟩
  split at hp1
  · rename_i env1 e1
    exact ⟨L1, h1, env, d, env1, hr1, sr.mono le kp, r1, e1, fun σ' sr' _ => hp1 L1 H1 σ' (LE.refl _) (Keep.refl _) hr1 sr'⟩
  · exact hp1.elim
theorem s_asg {tg : Expr} {t : TF} {fp : List Nat} (C : Or) {f : EF} (he : PE X e (tE X W (f C))) (hg : PG X tg (tG X.K fp t)) (hs : swapsWithSole [tg] e pos.line X.env = pure false) (hw : swappedStores [tg] e X.env = pure none)
    (h1 : (assignEach [tg] X.env).map (·.2) = [assign tg X.env]) : PS X (.Assign [tg] e pos) (tS X W (asgS t f C)) := PS.weak (ps_asg he hg hs hw h1) fun D_ σ H q => asg_ C q
theorem s_set {i : Nat} {x : Str} {pos' : Pos} (C : Or) {f : EF} (hN : X.N.Nodup) (hi : X.N[i]? = some x) (hx : Loc X.env.scope x) (he : PE X e (tE X W (f C))) (hs : swapsWith e (some (.Name x pos')) pos.line X.env = pure false) (hf : X.fn x = true ∨ X.env.scope.names.lookup x = some .local) :
    PS X (.Assign [.Name x pos'] e pos) (tS X W (asgS (nmT i) f C)) := PS.weak (ps_set hN hi hx he hs hf) fun D_ σ H ⟨L, h, env, hr, sr, hp⟩ => ⟨L, h, env, hr, sr, pS.then_ sr hp fun d h1 L1 H1 v le kp hr1 r1 hp1 => by
  unfold nmT at hp1
  split at hp1
  · rename_i env1 e1
    split at e1
    · cases e1
      exact hp1 L1 H1 _ (LE.refl _) (Keep.refl _) hr1 ((sr.mono le kp).set r1)
    · cases e1
  · exact hp1.elim⟩
theorem s_par {i j : Nat} {x y : Str} {a b : Expr} {px py pt : Pos} {kt k2 : Nat} {pt2 : Pos} (C : Or) {fa fb : EF} (hc : X.calm = true) (hN : X.N.Nodup) (hi : X.N[i]? = some x) (hj : X.N[j]? = some y) (hij : i ≠ j)
    (hx : X.env.scope.names.lookup x = some .local) (hy : X.env.scope.names.lookup y = some .local) (ha : PE X a (tE X W (fa C))) (hb : PE X b (tE X W (fb C)))
    (s1 : starEach (a :: [b]) X.env = (false, eval a X.env) :: starEach [b] X.env) (s2 : starEach (b :: []) X.env = (false, eval b X.env) :: starEach [] X.env)
    (hw : swappedStores [.Tuple [.Name x px, .Name y py] kt pt] (.Tuple [a, b] k2 pt2) X.env = pure (some [x, y]))
    (hs : swapsWithSole [.Tuple [.Name x px, .Name y py] kt pt] (.Tuple [a, b] k2 pt2) pos.line X.env = pure false) :
    PS X (.Assign [.Tuple [.Name x px, .Name y py] kt pt] (.Tuple [a, b] k2 pt2) pos) (tS X W (parS i j fa fb C)) :=
  PS.weak (ps_par hc hN hi hj hij hx hy (pa_cons ha (pa_cons hb pa_nil s2) s1) hw hs) fun D_ σ H ⟨L, h, env, hr, sr, hp⟩ => ⟨L, h, env, hr, sr, pS.then_ sr hp fun d h1 L1 H1 v le kp hr1 r1 hp1 => ⟨L1, h1, env, hr1, sr.mono le kp, pS.then_ (sr.mono le kp) hp1 fun d2 h2 L2 H2 v2 le2 kp2 hr2 r2 hp2 => by
    split at hp2
    · exact ⟨v, v2, rfl, hp2 L2 H2 _ (LE.refl _) (Keep.refl _) hr2 ((((sr.mono le kp).mono le2 kp2).set (r1.mono le2 kp2)).set r2)⟩
    · exact hp2.elim⟩⟩
/-- o[i] = e -/
theorem s_setL {o i : Expr} {tpos : Pos} (C : Or) {fo fi f : EF} (he : PE X e (tE X W (f C))) (ho : PE X o (tE X W (fo C))) (hi : PE X i (tE X W (fi C)))
    (ha : ∀ v, assign (.Subscript o i tpos) X.env v = (do
      let ov ← holding [v] (eval o X.env)
      let iv ← holding [v, ov] (eval i X.env)
      standAt tpos
      holding [v, ov, iv] (setItem ov iv v)
      release [v, ov, iv] [])) (hs : swapsWithSole [.Subscript o i tpos] e pos.line X.env = pure false) (hw : swappedStores [.Subscript o i tpos] e X.env = pure none)
    (h1 : (assignEach [.Subscript o i tpos] X.env).map (·.2) = [assign (.Subscript o i tpos) X.env]) : PS X (.Assign [.Subscript o i tpos] e pos) (tS X W (setS fo fi f C)) :=
  PS.weak (ps_asg he (pg_sub ho hi set_list ha) hs hw h1) fun D_ σ H ⟨L, h, env, hr, sr, hp⟩ => ⟨L, h, env, hr, sr, pS.then_ sr hp fun d h1 L1 H1 v le kp hr1 r1 hp1 => ⟨L1, h1, env, hr1, sr.mono le kp, pS.then_ (sr.mono le kp) hp1 fun x h2 L2 H2 vx le2 kp2 hr2 r2 hp2 =>
    ⟨L2, h2, env, hr2, (sr.mono le kp).mono le2 kp2, pS.then_ ((sr.mono le kp).mono le2 kp2) hp2 fun k h3 L3 H3 vk le3 kp3 hr3 r3 hp3 => by
      split at hp3
      · rename_i h4 e4
        have r1' := (r1.mono le2 kp2).mono le3 kp3
        have r2' := r2.mono le3 kp3
        cases r2' with
        | @ref p a ea =>
          cases r3 with
          | int z =>
            simp only [setL] at e4
            split at e4
            · rename_i ds e0
              split at e4
              · rename_i j ej
                cases e4
                obtain ⟨xs, q, s⟩ := hr3.lst p a ds e0 ea
                exact ⟨a, xs, z, j, rfl, rfl, q, by rw [← s.len]; exact ej, hp3 L3 _ σ (LE.refl _) (Keep.setL q) (hr3.set e0 ea (s.set r1' j)) ((((sr.mono le kp).mono le2 kp2).mono le3 kp3).mono (LE.refl _) (Keep.setL q))⟩
              · cases e4
            · cases e4
          | _ => cases e4
        | _ => cases e4
      · exact hp3.elim⟩⟩⟩

/-! what is walked -/
theorem guards_at {gs : Guards} {h : Hv} (g : guardsOk gs h = true) {i : Nat} {ds : List D} (m : (i, ds) ∈ gs) : h[i]? = some (.lst ds) ∨ h[i]? = some (.ro ds) := of_decide_eq_true (List.all_eq_true.mp g _ m)
def WalkOk (K : PySem.W.Frag) (L0 : List Addr) (H0 : Hp) (J : It) (items : List D) (gs : Guards) : Prop := ∀ L H h i, LE L0 L → Keep K H0 H → HR K L H h → guardsOk gs h = true →
  (∀ d, items[i]? = some d → J.go i H ∧ ∀ x H', J.yld i H x H' → Keep K H H' ∧ HR K L H' h ∧ Rel K L H' d x) ∧ (i = items.length → J.stop i H)
def tI (X : Cx) (W : WX) (f : Env → Hv → R (List D × Guards)) : TI := fun σ H Q => ∃ L h env, HR X.K L H h ∧ SRel X.K L H env σ ∧ pRg (fun L H (z : List D × Guards) J => WalkOk X.K L H J z.1 z.2) X.K X.mg L H W σ Q (f env h)
theorem PI.weak {X : Cx} {tg e : Expr} {t t' : TI} (h : PI X tg e t) (w : ∀ σ H Q, t' σ H Q → t σ H Q) : PI X tg e t' := ⟨fun pins s σ H Q I q => h.run pins s σ H Q I (w σ H Q q)⟩
theorem walk_tupW {K : PySem.W.Frag} {L : List Addr} {H : Hp} {a : Addr} {ds : List D} {xs : List V} (ha : SqT K H a xs) (r : Rels K L H ds xs) : WalkOk K L H (Itt K a) ds [] := by
  intro L1 H1 h i le kp hr _
  refine ⟨fun d e => ?_, fun e => ?_⟩
  · obtain ⟨v, e1, rv⟩ := r.get e
    refine ⟨⟨xs, v, kp.tup _ _ ha, e1⟩, fun x H' y => ?_⟩
    obtain ⟨rfl, f⟩ := y
    have e2 := f xs (kp.tup _ _ ha)
    rw [e1] at e2
    cases e2
    exact ⟨Keep.refl _, hr, rv.mono le kp⟩
  · exact ⟨xs, kp.tup _ _ ha, by rw [e, r.len]; exact Nat.le_refl _⟩
theorem walk_lstW {K : PySem.W.Frag} {L : List Addr} {H : Hp} {a : Addr} {p : Nat} {ds : List D} (ea : L[p]? = some a) : WalkOk K L H (Itl K a) ds [(p, ds)] := by
  intro L1 H1 h i le kp hr g
  have at_ : ∃ xs, SqL K H1 a xs ∧ Rels K L1 H1 ds xs := by
    rcases guards_at g (List.mem_cons_self ..) with z | z
    · obtain ⟨xs, q, r⟩ := hr.lst p a ds z (le _ _ ea)
      exact ⟨xs, SqL.of q, r⟩
    · obtain ⟨xs, q, r⟩ := hr.ro p a ds z (le _ _ ea)
      exact ⟨xs, q.seq, r⟩
  obtain ⟨xs, sq, r⟩ := at_
  refine ⟨fun d e => ?_, fun e => ⟨xs, sq, by rw [e, r.len]; exact Nat.le_refl _⟩⟩
  obtain ⟨v, e1, rv⟩ := r.get e
  refine ⟨⟨xs, v, sq, e1⟩, fun x H' y => ?_⟩
  obtain ⟨rfl, f⟩ := y
  have e2 := f xs sq
  rw [e1] at e2
  cases e2
  exact ⟨Keep.refl _, hr, rv⟩
theorem rng_get {lo : Int} {n i : Nat} {d : D} (e : (rng lo n)[i]? = some d) : i < n ∧ d = .int (lo + (i : Nat)) := by
  unfold rng at e
  rw [List.getElem?_map] at e
  cases q : (List.range n)[i]? with
  | none => rw [q] at e; cases e
  | some j =>
    rw [q] at e
    obtain ⟨h1, h2⟩ := List.getElem?_eq_some_iff.mp q
    rw [List.getElem_range] at h2
    subst h2
    exact ⟨by simpa using h1, (Option.some.inj e).symm⟩
theorem walk_rngW {K : PySem.W.Frag} {L : List Addr} {H : Hp} {lo : Int} {n : Nat} : WalkOk K L H (Itr lo n) (rng lo n) [] := by
  intro L1 H1 h i le kp hr g
  refine ⟨fun d e => ?_, fun e => by rw [e]; unfold rng; rw [List.length_map, List.length_range]; exact Nat.le_refl _⟩
  obtain ⟨hi, rfl⟩ := rng_get e
  refine ⟨hi, fun x H' y => ?_⟩
  obtain ⟨rfl, rfl⟩ := y
  exact ⟨Keep.refl _, hr, .int _⟩
theorem i_e {tg : Expr} (C : Or) {f : EF} (he : PE X e (tE X W (f C))) : PI X tg e (tI X W (itE f C)) := by
  refine ⟨fun pins s σ H R_ I q => ?_⟩
  obtain ⟨L, h, env, hr, sr, hp⟩ := q
  have go : tE X W (f C) σ H fun x H1 => ∃ a, x = .ref a ∧ ((∃ xs, SqL X.K H1 a xs ∧ R_ (Itl X.K a) H1) ∨ ∃ xs, SqT X.K H1 a xs ∧ R_ (Itt X.K a) H1) := by
    refine ⟨L, h, env, hr, sr, pRg.then_ hp fun d h1 L1 H1 v le kp hr1 r1 hp1 => ?_⟩
    split at hp1
    · rename_i z ez
      cases r1 with
      | @tup ds a xs ha ra =>
        cases ez
        exact ⟨a, rfl, .inr ⟨xs, ha, hp1 L1 H1 _ (LE.refl _) (Keep.refl _) hr1 (walk_tupW ha ra)⟩⟩
      | @ref p a ea =>
        simp only [seqOf] at ez
        split at ez
        · rename_i ds e0
          cases ez
          obtain ⟨xs, q, s⟩ := hr1.lst p a ds e0 ea
          exact ⟨a, rfl, .inl ⟨xs, SqL.of q, hp1 L1 H1 _ (LE.refl _) (Keep.refl _) hr1 (walk_lstW ea)⟩⟩
        · rename_i ds e0
          cases ez
          obtain ⟨xs, q, s⟩ := hr1.ro p a ds e0 ea
          exact ⟨a, rfl, .inl ⟨xs, q.seq, hp1 L1 H1 _ (LE.refl _) (Keep.refl _) hr1 (walk_lstW ea)⟩⟩
        · cases ez
      | _ => cases ez
    · exact hp1.elim
  refine thn (he.run pins s σ H _ I go) fun v s1 ⟨x, H1, I1, r1, a, ex, q1⟩ => ?_
  subst ex
  rcases q1 with ⟨xs, sq, q1⟩ | ⟨xs, sq, q1⟩
  · have t : PI X tg e (iList X.K fun _ H Q => H = H1 ∧ Q (.ref a) H) → True := fun _ => trivial
    cases r1
    obtain ⟨its, rv, pl, hz⟩ := I1.list sq
    refine wpAny_pyIter_list pl.isList ?_
    refine ⟨s1.heap.objs.size, [s1.heap.objs.size], _, _, H1, rfl, I1.kept (t' := s1.toks) fun b o e => Heap.get?_push_of_some _ e, turn_list a _, ⟨_, Heap.get?_push_size _ rfl, rfl, rfl⟩, fun b hb => ?_, q1⟩
    obtain rfl : b = s1.heap.objs.size := by simpa using hb
    exact I1.fpOk (Nat.le_refl _) (I1.hok.fresh (Nat.le_refl _))
  · cases r1
    obtain ⟨its, rv, pl, hz⟩ := I1.tuple sq
    refine wpAny_pyIter_tuple (show s1.heap.IsTuple a its.toArray from pl) ?_
    refine ⟨s1.heap.objs.size, [s1.heap.objs.size], _, _, H1, rfl, I1.kept (t' := s1.toks) fun b o e => Heap.get?_push_of_some _ e, turn_tuple a _, ⟨_, Heap.get?_push_size _ rfl, rfl, rfl⟩, fun b hb => ?_, q1⟩
    obtain rfl : b = s1.heap.objs.size := by simpa using hb
    exact I1.fpOk (Nat.le_refl _) (I1.hok.fresh (Nat.le_refl _))
theorem i_r1 {tg a : Expr} {p : Pos} (C : Or) {fa : EF} (hg : Gl X "range") (hm : X.mg "range" = none) (ha : PE X a (tE X W (fa C))) (s1 : starEach [a] X.env = (false, eval a X.env) :: starEach [] X.env) : PI X tg (.Call (.Name "range" p) [a] [] pos) (tI X W (it1F fa C)) :=
  PI.weak (pi_range1 hg hm (pa_cons ha pa_nil s1) (by rw [s1]; rfl)) fun σ H Q ⟨L, h, env, hr, sr, hp⟩ => ⟨L, h, env, hr, sr, pRg.then_ hp fun d h1 L1 H1 v le kp hr1 r1 hp1 => by
    cases r1 with
    | int j =>
      simp only at hp1
      split at hp1
      · rename_i hz
        exact ⟨j, rfl, by omega, by omega, hp1 L1 H1 _ (LE.refl _) (Keep.refl _) hr1 walk_rngW⟩
      · exact hp1.elim
    | _ => exact hp1.elim⟩
theorem i_r2 {tg a b : Expr} {p : Pos} (C : Or) {fa fb : EF} (hg : Gl X "range") (hm : X.mg "range" = none) (ha : PE X a (tE X W (fa C))) (hb : PE X b (tE X W (fb C))) (s1 : starEach [a, b] X.env = (false, eval a X.env) :: starEach [b] X.env) (s2 : starEach [b] X.env = (false, eval b X.env) :: starEach [] X.env) :
    PI X tg (.Call (.Name "range" p) [a, b] [] pos) (tI X W (it2F fa fb C)) :=
  PI.weak (pi_range2 hg hm (pa_cons ha (pa_cons hb pa_nil s2) s1) (by rw [s1, s2]; rfl) (by rw [s2]; rfl)) fun σ H Q ⟨L, h, env, hr, sr, hp⟩ => ⟨L, h, env, hr, sr, pRg.then_ hp fun d h1 L1 H1 v le kp hr1 r1 hp1 => ⟨L1, h1, env, hr1, sr.mono le kp, pRg.then_ hp1 fun d2 h2 L2 H2 v2 le2 kp2 hr2 r2 hp2 => by
    cases r1 with
    | int i =>
      cases r2 with
      | int j =>
        simp only at hp2
        split at hp2
        · rename_i hz
          exact ⟨i, j, rfl, ⟨by omega, by omega, by omega, by omega⟩, hp2 L2 H2 _ (LE.refl _) (Keep.refl _) hr2 walk_rngW⟩
        · exact hp2.elim
      | _ => exact hp2.elim
    | _ => exact hp2.elim⟩⟩
end
end VM

set_option maxRecDepth 100000
set_option maxHeartbeats 1000000
namespace VM
open PySem PySem.Spec PyProof.Rows L2
section
variable {X : Cx} {W : WX} {pos : Pos} {bs : List Stmt} {c : Expr}
/-- the walked thing first -/
theorem pS.thenI {K : PySem.W.Frag} {mg : Str → Option Value} {L : List Addr} {H : Hp} {σ : L2.St} {D_ : Ends} {r : R (List D × Guards)} {env : Env} {g : List D × Guards → Hv → SR} {REST : It → Hp → Prop} (sr : SRel K L H env σ) (p : pS K mg L H W D_ (r.thenI env g))
    (k : ∀ z h1 L1 H1 J, LE L L1 → Keep K H H1 → HR K L1 H1 h1 → WalkOk K L1 H1 J z.1 z.2 → pS K mg L1 H1 W D_ (g z h1) → REST J H1) : pRg (fun L H (z : List D × Guards) J => WalkOk K L H J z.1 z.2) K mg L H W σ REST r := by
  cases r with
  | ok a h1 => exact fun L1 H1 J le kp hr wk => k a h1 L1 H1 J le kp hr wk (pS.mono p le kp)
  | exc c d h1 => exact fun L1 H1 cv dx le kp hr ex => p L1 H1 σ cv dx le kp hr (sr.mono le kp) ex
  | stuck => exact p
theorem s_for {tg iter : Expr} {t : TF} {fp : List Nat} (C : Or) {fi : IF} {f : SF} (hp0 : PassesOwn (model X.prog X.w) X.A X.env X.xe) (hc : X.calm = true) (hi : PI X tg iter (tI X W (fi C))) (hg : PG X tg (tG X.K fp t)) (hb : PSs X bs (tS X W (f C)))
    (hs : ∀ x, foldedSetIterable iter X.env x = pure x) : PS X (.For tg iter bs [] pos) (tS X W (forS fi t f C)) := by
  refine PS.weak (ps_for hp0 hc hi hg hb hs) fun D_ σ H ⟨L, h, env, hr, sr, hp⟩ => ⟨L, h, env, hr, sr, pS.thenI sr hp fun z h1 L1 H1 J le kp hr1 wk hp1 => ?_⟩
  refine ⟨fun i m σ' H' => m = z.1.length - i ∧ i ≤ z.1.length ∧ ∃ L' h' env', LE L1 L' ∧ Keep X.K H1 H' ∧ HR X.K L' H' h' ∧ SRel X.K L' H' env' σ' ∧ pS X.K X.mg L' H' W D_ (forL C t (f) z.2 (z.1.drop i) env' h'), ⟨z.1.length, by simp, Nat.zero_le _, L1, h1, env, LE.refl _, Keep.refl _, hr1, sr.mono le kp, by rw [List.drop_zero]; exact hp1⟩, ?_⟩
  rintro i m σ' H' ⟨rfl, hi, L2, h2, env2, le2, kp2, hr2, sr2, hp2⟩
  by_cases hlt : i < z.1.length
  · rw [List.drop_eq_getElem_cons hlt] at hp2
    simp only [forL] at hp2
    split at hp2
    · rename_i gd
      obtain ⟨w1, _⟩ := wk L2 H' h2 i le2 kp2 hr2 gd
      obtain ⟨go, yl⟩ := w1 _ (List.getElem?_eq_getElem hlt)
      split at hp2
      · rename_i env3 e3
        refine .inr ⟨go, fun σ4 H4 => ∃ L' h' env', LE L1 L' ∧ Keep X.K H1 H4 ∧ HR X.K L' H4 h' ∧ SRel X.K L' H4 env' σ4 ∧ pS X.K X.mg L' H4 W D_ (forL C t (f) z.2 (z.1.drop (i + 1)) env' h'), fun σ4 H4 q => ⟨z.1.length - (i + 1), by omega, rfl, hlt, q⟩, fun x H3 y => ?_⟩
        obtain ⟨kp3, hr3, rx⟩ := yl x H3 y
        refine ⟨L2, h2, env2, _, env3, hr3, sr2.mono (LE.refl _) kp3, rx, e3, fun σ4 sr4 _ => ⟨L2, h2, env3, hr3, sr4, ?_⟩⟩
        have hp3 := pS.mono hp2 (LE.refl _) kp3
        cases q : f C env3 h2 with
        | nx env5 h5 =>
          rw [q] at hp3
          exact fun L5 H5 σ5 le5 kp5 hr5 sr5 => ⟨L5, h5, env5, le2.trans le5, (kp2.trans kp3).trans kp5, hr5, sr5, pS.mono hp3 le5 kp5⟩
        | ct env5 h5 =>
          rw [q] at hp3
          exact fun L5 H5 σ5 le5 kp5 hr5 sr5 => ⟨L5, h5, env5, le2.trans le5, (kp2.trans kp3).trans kp5, hr5, sr5, pS.mono hp3 le5 kp5⟩
        | bk env5 h5 => rw [q] at hp3; exact hp3
        | rt d h5 => rw [q] at hp3; exact hp3
        | exc c d e h5 => rw [q] at hp3; exact hp3
        | stuck => rw [q] at hp3; exact hp3
      · exact hp2.elim
    · exact hp2.elim
  · have e : i = z.1.length := by omega
    rw [List.drop_eq_nil_of_le (by omega)] at hp2
    simp only [forL] at hp2
    split at hp2
    · rename_i gd
      obtain ⟨_, w2⟩ := wk L2 H' h2 i le2 kp2 hr2 gd
      exact .inl ⟨w2 e, hp2 L2 H' σ' (LE.refl _) (Keep.refl _) hr2 sr2⟩
    · exact hp2.elim
theorem s_while (C : Or) {fc : EF} {f : SF} (hp0 : PassesOwn (model X.prog X.w) X.A X.env X.xe) (hc : PT X c (tB X W (fc C))) (hb : PSs X bs (tS X W (f C))) : PS X (.While c bs [] pos) (tS X W (whileS fc f C)) := by
  refine PS.weak (ps_while hp0 hc hb) fun D_ σ H ⟨L, h, env, hr, sr, hp⟩ => ?_
  refine ⟨fun m σ' H' => ∃ L' h' env', HR X.K L' H' h' ∧ SRel X.K L' H' env' σ' ∧ pS X.K X.mg L' H' W D_ (whileL C fc f m env' h'), ⟨wfuel, L, h, env, hr, sr, hp⟩, ?_⟩
  rintro m σ' H' ⟨L1, h1, env1, hr1, sr1, hp1⟩
  cases m with
  | zero => exact hp1.elim
  | succ m =>
    refine ⟨L1, h1, env1, hr1, sr1, pS.thenT sr1 hp1 (fun d h n => by cases d <;> first | rfl | exact absurd rfl (n _)) fun b h2 L2 H2 le2 kp2 hr2 hp2 => ?_⟩
    cases b with
    | true =>
      refine ⟨fun σ4 H4 => ∃ L' h' env', HR X.K L' H4 h' ∧ SRel X.K L' H4 env' σ4 ∧ pS X.K X.mg L' H4 W D_ (whileL C fc f m env' h'), fun σ4 H4 q => ⟨m, Nat.lt_succ_self m, q⟩, L2, h2, env1, hr2, sr1.mono le2 kp2, ?_⟩
      have hp3 : pS X.K X.mg L2 H2 W D_ (match f C env1 h2 with
        | .nx env2 h2 => whileL C fc f m env2 h2
        | .ct env2 h2 => whileL C fc f m env2 h2
        | .bk env2 h2 => .nx env2 h2
        | r => r) := hp2
      cases q : f C env1 h2 with
      | nx env5 h5 =>
        rw [q] at hp3
        exact fun L5 H5 σ5 le5 kp5 hr5 sr5 => ⟨L5, h5, env5, hr5, sr5, pS.mono hp3 le5 kp5⟩
      | ct env5 h5 =>
        rw [q] at hp3
        exact fun L5 H5 σ5 le5 kp5 hr5 sr5 => ⟨L5, h5, env5, hr5, sr5, pS.mono hp3 le5 kp5⟩
      | bk env5 h5 => rw [q] at hp3; exact hp3
      | rt d h5 => rw [q] at hp3; exact hp3
      | exc c d e h5 => rw [q] at hp3; exact hp3
      | stuck => rw [q] at hp3; exact hp3
    | false => exact hp2 L2 H2 σ' (LE.refl _) (Keep.refl _) hr2 (sr1.mono le2 kp2)
/-! comprehensions -/
theorem wipe_at (σ : L2.St) : ∀ (vs : List Nat) (j : Nat), (wipe σ vs)[j]? = if j ∈ vs then (σ[j]?).map (fun _ => none) else σ[j]?
  | [], j => by simp [wipe]
  | v :: vs, j => by
    unfold wipe
    by_cases hj : v = j
    · subst hj
      rw [if_pos (List.mem_cons_self ..)]
      by_cases hv : v < σ.length
      · rw [List.getElem?_set_self (by rw [wipe_length]; exact hv), List.getElem?_eq_getElem hv]; rfl
      · rw [List.getElem?_eq_none (by rw [List.length_set, wipe_length]; omega), List.getElem?_eq_none (by omega)]; rfl
    · rw [List.getElem?_set_ne hj, wipe_at σ vs j]
      by_cases hm : j ∈ vs
      · rw [if_pos hm, if_pos (List.mem_cons_of_mem _ hm)]
      · rw [if_neg hm, if_neg (by simp only [List.mem_cons, not_or]; exact ⟨fun z => hj z.symm, hm⟩)]
theorem wipe_off {σ σ' : L2.St} {fp vs : List Nat} (o : Off fp (wipe σ vs) σ') (sub : ∀ j ∈ fp, j ∈ vs) : wipe σ' vs = wipe σ vs := by
  apply List.ext_getElem?
  intro j
  by_cases hm : j ∈ vs
  · rw [wipe_at, wipe_at, if_pos hm, if_pos hm]
    have hl : σ'.length = σ.length := by rw [o.1, wipe_length]
    by_cases hj : j < σ.length
    · rw [List.getElem?_eq_getElem hj, List.getElem?_eq_getElem (by omega)]; rfl
    · rw [List.getElem?_eq_none (by omega), List.getElem?_eq_none (by omega)]
  · rw [wipe_at, if_neg hm]
    exact o.2 j fun z => hm (sub j z)
theorem pRg.noexc {α β : Type} {ρ : List Addr → Hp → α → β → Prop} {K : PySem.W.Frag} {mg : Str → Option Value} {L : List Addr} {H : Hp} {W W' : WX} {σ τ : L2.St} {Q : β → Hp → Prop} {r : R α} (p : pRg ρ K mg L H W σ Q r.noexc) : pRg ρ K mg L H W' τ Q r := by
  cases r with
  | ok a h => exact p
  | exc c d h => exact p.elim
  | stuck => exact p
abbrev W0 : WX := fun _ _ _ _ => False
theorem lc_read {own : List (Str × Nat)} {t : TF} {fp : List Nat} (C : Or) {fi : IF} {ft fe : EF} (sub : ∀ j ∈ fp, j ∈ own.map fun (q : Str × Nat) => q.2) : ∀ σ H Q, tE X W (lcF fi t (own.map fun (q : Str × Nat) => q.2) ft fe C) σ H Q → tLc (tI X W (fi C)) (tG X.K fp t) (tB X W0 (ft C)) (tE X W0 (fe C)) (own.map fun (q : Str × Nat) => q.2) σ H Q := by
  intro σ H Q ⟨L, h, env, hr, sr, hp⟩
  refine ⟨L, h, env, hr, sr, pRg.then_ hp fun z h1 L1 H1 J le kp hr1 wk hp1 => ?_⟩
  intro p np
  have hrN := hr1.alloc np (Rels.nil (K := X.K) (L := L1) (H := H1))
  have kpN : Keep X.K H1 (upd H1 p (.lst [])) := Keep.new np
  have leN := LE.app L1 [p]
  have atN : (L1 ++ [p])[h1.length]? = some p := by rw [← hr1.len]; simp
  have srN : SRel X.K (L1 ++ [p]) (upd H1 p (.lst [])) (wipeD env (own.map fun (q : Str × Nat) => q.2)) (wipe σ (own.map fun (q : Str × Nat) => q.2)) := ((sr.mono le kp).mono leN kpN).wipe _
  generalize hL : L1 ++ [p] = LN at *
  generalize hH : upd H1 p (.lst []) = HN at *
  have hp2 := pRg.mono hp1 leN kpN
  refine ⟨fun i m H' => m = z.1.length - i ∧ i ≤ z.1.length ∧ ∃ L' h', LE LN L' ∧ Keep X.K HN H' ∧ HR X.K L' H' h' ∧ pR X.K X.mg L' H' W σ Q ((lcLoop C (wipeD env (own.map fun (q : Str × Nat) => q.2)) t ft fe z.2 h1.length (z.1.drop i) h').noexc.bind fun _ h2 => .ok (.ref h1.length) h2),
    ⟨z.1.length, by simp, Nat.zero_le _, LN, _, LE.refl _, Keep.refl _, hrN, by rw [List.drop_zero]; exact hp2⟩, ?_⟩
  rintro i m H' ⟨rfl, hi, L2, h2, le2, kp2, hr2, hq2⟩
  by_cases hlt : i < z.1.length
  · rw [List.drop_eq_getElem_cons hlt] at hq2
    simp only [lcLoop] at hq2
    split at hq2
    · rename_i gd
      obtain ⟨w1, _⟩ := wk L2 H' h2 i (leN.trans le2) (kpN.trans kp2) hr2 gd
      obtain ⟨go, yl⟩ := w1 _ (List.getElem?_eq_getElem hlt)
      split at hq2
      · rename_i env3 e3
        refine .inr ⟨go, fun H4 => ∃ L' h', LE LN L' ∧ Keep X.K HN H4 ∧ HR X.K L' H4 h' ∧ pR X.K X.mg L' H4 W σ Q ((lcLoop C (wipeD env (own.map fun (q : Str × Nat) => q.2)) t ft fe z.2 h1.length (z.1.drop (i + 1)) h').noexc.bind fun _ h2 => .ok (.ref h1.length) h2), fun H4 q => ⟨z.1.length - (i + 1), by omega, rfl, hlt, q⟩, fun x H3 y => ?_⟩
        obtain ⟨kp3, hr3, rx⟩ := yl x H3 y
        refine ⟨L2, h2, _, _, env3, hr3, (srN.mono le2 kp2).mono (LE.refl _) kp3, rx, e3, fun σ4 sr4 off => ⟨wipe_off off sub, L2, h2, env3, hr3, sr4, ?_⟩⟩
        have hq3 := pRg.mono hq2 (LE.refl _) kp3
        -- the test
        cases qt : ft C env3 h2 with
        | stuck => rw [qt] at hq3; exact hq3.elim
        | exc c d h5 => rw [qt] at hq3; exact hq3.elim
        | ok d h5 =>
          rw [qt] at hq3
          cases d with
          | bl b =>
            intro L5 H5 le5 kp5 hr5
            have hq5 := pRg.mono hq3 le5 kp5
            cases b with
            | false =>
              refine (if_neg Bool.false_ne_true).mpr ?_
              exact ⟨L5, h5, le2.trans le5, (kp2.trans kp3).trans kp5, hr5, hq5⟩
            | true =>
              refine (if_pos rfl).mpr ?_
              refine ⟨L5, h5, env3, hr5, sr4.mono le5 kp5, ?_⟩
              cases qe : fe C env3 h5 with
              | stuck =>
                have z2 : pR X.K X.mg L5 H5 W σ Q (((fe C env3 h5).bind fun y h2 => (match h2[h1.length]? with
                  | some (.lst acc) => if acc.length < szl then lcLoop C (wipeD env (own.map fun (q : Str × Nat) => q.2)) t ft fe z.2 h1.length (z.1.drop (i + 1)) (h2.set h1.length (.lst (acc ++ [y]))) else .stuck
                  | _ => .stuck)).noexc.bind fun _ h2 => .ok (.ref h1.length) h2) := hq5
                rw [qe] at z2; exact z2.elim
              | exc c d h6 =>
                have z2 : pR X.K X.mg L5 H5 W σ Q (((fe C env3 h5).bind fun y h2 => (match h2[h1.length]? with
                  | some (.lst acc) => if acc.length < szl then lcLoop C (wipeD env (own.map fun (q : Str × Nat) => q.2)) t ft fe z.2 h1.length (z.1.drop (i + 1)) (h2.set h1.length (.lst (acc ++ [y]))) else .stuck
                  | _ => .stuck)).noexc.bind fun _ h2 => .ok (.ref h1.length) h2) := hq5
                rw [qe] at z2; exact z2.elim
              | ok y h6 =>
                have z2 : pR X.K X.mg L5 H5 W σ Q (((fe C env3 h5).bind fun y h2 => (match h2[h1.length]? with
                  | some (.lst acc) => if acc.length < szl then lcLoop C (wipeD env (own.map fun (q : Str × Nat) => q.2)) t ft fe z.2 h1.length (z.1.drop (i + 1)) (h2.set h1.length (.lst (acc ++ [y]))) else .stuck
                  | _ => .stuck)).noexc.bind fun _ h2 => .ok (.ref h1.length) h2) := hq5
                rw [qe] at z2
                intro L6 H6 vy le6 kp6 hr6 ry
                have z3 := pRg.mono z2 le6 kp6
                have z4 : pR X.K X.mg L6 H6 W σ Q ((match h6[h1.length]? with
                  | some (.lst acc) => if acc.length < szl then lcLoop C (wipeD env (own.map fun (q : Str × Nat) => q.2)) t ft fe z.2 h1.length (z.1.drop (i + 1)) (h6.set h1.length (.lst (acc ++ [y]))) else .stuck
                  | _ => .stuck).noexc.bind fun _ h2 => .ok (.ref h1.length) h2) := z3
                split at z4
                · rename_i acc ea
                  split at z4
                  · rename_i hz
                    have at6 : L6[h1.length]? = some p := le6 _ _ (le5 _ _ (le2 _ _ atN))
                    obtain ⟨xs, q, s⟩ := hr6.lst _ p acc ea at6
                    refine ⟨xs, q, Nat.lt_of_lt_of_le (by rw [← s.len]; exact hz) szl_le, L6, _, (le2.trans le5).trans le6, (((kp2.trans kp3).trans kp5).trans kp6).trans (Keep.setL q), hr6.set ea at6 (s.app (.cons ry .nil)), pRg.mono z4 (LE.refl _) (Keep.setL q)⟩
                  · exact z4.elim
                · exact z4.elim
          | _ => exact hq3.elim
      · exact hq2.elim
    · exact hq2.elim
  · have e : i = z.1.length := by omega
    rw [List.drop_eq_nil_of_le (by omega)] at hq2
    simp only [lcLoop] at hq2
    split at hq2
    · rename_i gd
      obtain ⟨_, w2⟩ := wk L2 H' h2 i (leN.trans le2) (kpN.trans kp2) hr2 gd
      exact .inl ⟨w2 e, hq2 L2 H' _ (LE.refl _) (Keep.refl _) hr2 (.ref (le2 _ _ atN))⟩
    · exact hq2.elim
end
end VM

set_option maxRecDepth 100000
set_option maxHeartbeats 4000000
/-! zip over inner iterators of either kind; one step of zip, whatever comes of it -/
namespace ZM
open PySem PySem.Spec PyProof.Rows L2
open PySem.Sem (wp)
def Cur (t : Bool) (h : Heap) (i l : Addr) (k : Nat) : Prop := match t with
  | true => h.IsTupleIter i l k
  | false => h.IsListIter i l k
def Src (t : Bool) (h : Heap) (l : Addr) (xs : Array Value) : Prop := match t with
  | true => h.IsTuple l xs
  | false => h.IsList l xs
theorem Cur.ext {t : Bool} {h g : Heap} {b i l : Addr} {k : Nat} (c : Cur t h i l k) (e : Heap.ExtBut b h g) (n : i ≠ b) : Cur t g i l k := by
  cases t
  · exact Heap.IsListIter.extBut c e n
  · exact Heap.IsTupleIter.extBut c e n
theorem Src.ext {t : Bool} {h g : Heap} {b l : Addr} {xs : Array Value} (c : Src t h l xs) (e : Heap.ExtBut b h g) (n : l ≠ b) : Src t g l xs := by
  cases t
  · exact Heap.IsList.extBut c e n
  · exact Heap.IsTuple.extBut c e n
theorem Cur.mv {t : Bool} {h g : Heap} {i l : Addr} {k : Nat} (c : Cur t h i l k) (e : ∀ o, h.get? i = some o → g.get? i = some o) : Cur t g i l k := by
  cases t
  · exact Heap.IsListIter.at c e
  · exact Heap.IsTupleIter.at c e
theorem Cur.obj {t : Bool} {h : Heap} {i l : Addr} {k : Nat} (c : Cur t h i l k) : ∃ o, h.get? i = some o ∧ ∀ v, o.data ≠ .cell v := by
  cases t
  · obtain ⟨o, e, _, d⟩ := c
    exact ⟨o, e, fun v q => by rw [d] at q; cases q⟩
  · obtain ⟨o, e, _, d⟩ := c
    exact ⟨o, e, fun v q => by rw [d] at q; cases q⟩
section
variable {prog : Program} {w : World} {A : Around} {E : Value → Shared → Prop} {s : Shared}
theorem cur_get {t : Bool} {i l : Addr} {k : Nat} {xs : Array Value} {x : Value} {Q : Value → Shared → Prop} (c : Cur t s.heap i l k) (d : Src t s.heap l xs) (hx : xs[k]? = some x)
    (hQ : ∀ g, Cur t g i l (k + 1) → Heap.SameBut i s.heap g → Q x { s with heap := g }) : wpAny (model prog w) A (Builtin.SmallTypes.nextOf (.ref i)) Q E s := by
  cases t
  · exact wpAny_nextOf_list_item c d hx hQ
  · exact RZ.nextOf_tuple_item c d hx hQ
theorem cur_out {t : Bool} {i l : Addr} {k : Nat} {xs : Array Value} {Q : Value → Shared → Prop} (hh : A.handled = none) (c : Cur t s.heap i l k) (d : Src t s.heap l xs) (hx : xs[k]? = none)
    (hE : ∀ g e, Heap.ExtBut i s.heap g → (∃ o, g.get? e = some o ∧ o.cls = .type "StopIteration") → E (.ref e) { s with heap := g }) : wpAny (model prog w) A (Builtin.SmallTypes.nextOf (.ref i)) Q E s := by
  cases t
  · exact wpAny_nextOf_list_end hh c d hx hE
  · exact RZ.nextOf_tuple_end hh c d hx hE
/-- what stays: all but the zip, the tuple it keeps, and the two inner iterators -/
def Rest (h g : Heap) (z to u v : Addr) : Prop := ∀ c o, c ≠ z → c ≠ to → c ≠ u → c ≠ v → h.get? c = some o → g.get? c = some o
theorem next_any {tu tv : Bool} {z ti to u v p q : Addr} {m n : Nat} {xs ys : Array Value} {a b : Value} {R : Fin → Shared → Prop} (hh : A.handled = none) (D : ZipApart z ti to u v p q)
    (gz : IsZip s.heap z ti to .none) (gi : IsPair s.heap ti (.ref u) (.ref v)) (go : IsPair s.heap to a b)
    (cu : Cur tu s.heap u p m) (cv : Cur tv s.heap v q n) (su : Src tu s.heap p xs) (sv : Src tv s.heap q ys)
    (hret : ∀ x y g, xs[m]? = some x → ys[n]? = some y → IsZip g z ti to (rawInt s.heap.objs.size) → IsPair g to x y → Cur tu g u p (m + 1) → Cur tv g v q (n + 1) → IsPair g s.heap.objs.size x y →
      g.objs.size = s.heap.objs.size + 1 → Rest s.heap g z to u v → R (.done (.ret (.ref s.heap.objs.size))) { s with heap := g })
    (hstop : (xs[m]? = none ∨ ys[n]? = none) → ∀ g e, Rest s.heap g z to u v → (∃ o, g.get? e = some o ∧ o.cls = .type "StopIteration") → E (.ref e) { s with heap := g }) :
    wpAny (model prog w) A (Builtin.«zip.__next__» ⟨[.ref z], []⟩) R E s := by
  show wpAny _ _ (field (.ref z) 2 >>= _) R E s
  refine wpAny_bind (wpAny_field gz rfl (x := .bool false) rfl ?_)
  show wpAny _ _ (field (.ref z) 3 >>= _) R E s
  refine wpAny_bind (wpAny_field gz rfl (x := .ref ti) rfl (wpAny_bind (wpAny_seqItems gi rfl ?_)))
  show wpAny _ _ (Builtin.SmallTypes.ownedTupleIsFree (.ref z) >>= _) R E s
  unfold Builtin.SmallTypes.ownedTupleIsFree
  refine wpAny_bind (wpAny_bind (wpAny_field gz rfl (x := .none) rfl (wpAny_pure ?_)))
  rw [if_pos (by rfl)]
  refine wpAny_bind (wpAny_rule (wpAny_bind (wpAny_field gz rfl (x := .ref to) rfl ?_)))
  refine wpAny_bind (wpAny_setField_rec gz (by simp) fun A1 z1 k1 => ?_)
  have z1 : IsZip A1 z ti to .ellipsis := z1
  simp only [List.zipIdx_cons, List.zipIdx_nil, List.forIn_cons, List.forIn_nil]
  refine wpAny_bind (wpAny_bind (wpAny_bind (wpAny_onRaise ?_)))
  show wpAny _ _ (Builtin.SmallTypes.nextOf (.ref u) >>= _) _ _ _
  have cu1 := cu.ext k1.extBut D.i1z
  have su1 := su.ext k1.extBut D.l1z
  rcases hx : xs[m]? with _ | x
  · refine wpAny_bind (cur_out hh cu1 su1 hx fun A2 e k2 ⟨oe, e1, e2⟩ => ?_)
    have z2 : IsZip A2 z ti to .ellipsis := k2 _ _ D.i1z.symm z1
    have ne : e ≠ z := by
      rintro rfl
      rw [z2] at e1
      cases e1
      simp at e2
    exact wpAny_setField_rec z2 (by simp) fun A3 _ k3 => hstop (.inl hx) A3 e (fun c o c1 _ c3 _ y => k3.extBut _ _ c1 (k2 _ _ c3 (k1.extBut _ _ c1 y))) ⟨oe, k3.extBut _ _ ne e1, e2⟩
  · refine wpAny_bind (cur_get cu1 su1 hx fun A2 cu2 k2 => wpAny_pure ?_)
    have o2 : IsPair A2 to a b := k2.extBut _ _ D.TOi1 (k1.extBut _ _ D.TOz go)
    refine wpAny_bind (wpAny_seqItems o2 rfl (wpAny_bind (wpAny_updateSeq_pair o2 fun A3 o3 k3 => ?_)))
    have o3 : IsPair A3 to x b := o3
    refine wpAny_bind (wpAny_letGo (wpAny_pure (wpAny_bind (wpAny_bind (wpAny_onRaise ?_)))))
    show wpAny _ _ (Builtin.SmallTypes.nextOf (.ref v) >>= _) _ _ _
    have cv3 := ((cv.ext k1.extBut D.i2z).ext k2.extBut D.i12.symm).ext k3.extBut D.TOi2.symm
    have sv3 := ((sv.ext k1.extBut D.l2z).ext k2.extBut D.l2i1).ext k3.extBut D.l2TO
    have z3 : IsZip A3 z ti to .ellipsis := k3.extBut _ _ D.TOz.symm (k2.extBut _ _ D.i1z.symm z1)
    have r3 : ∀ c o, c ≠ z → c ≠ to → c ≠ u → s.heap.get? c = some o → A3.get? c = some o := fun c o c1 c2 c3 y => k3.extBut _ _ c2 (k2.extBut _ _ c3 (k1.extBut _ _ c1 y))
    rcases hy : ys[n]? with _ | y
    · refine wpAny_bind (cur_out hh cv3 sv3 hy fun A4 e k4 ⟨oe, e1, e2⟩ => ?_)
      have z4 : IsZip A4 z ti to .ellipsis := k4 _ _ D.i2z.symm z3
      have ne : e ≠ z := by
        rintro rfl
        rw [z4] at e1
        cases e1
        simp at e2
      exact wpAny_setField_rec z4 (by simp) fun A5 _ k5 => hstop (.inr hy) A5 e (fun c o c1 c2 c3 c4 y => k5.extBut _ _ c1 (k4 _ _ c4 (r3 c o c1 c2 c3 y))) ⟨oe, k5.extBut _ _ ne e1, e2⟩
    · refine wpAny_bind (cur_get cv3 sv3 hy fun A4 cv4 k4 => wpAny_pure ?_)
      have o4 : IsPair A4 to x b := k4.extBut _ _ D.TOi2 o3
      refine wpAny_bind (wpAny_seqItems o4 rfl (wpAny_bind (wpAny_updateSeq_pair o4 fun A5 o5 k5 => ?_)))
      have o5 : IsPair A5 to x y := o5
      refine wpAny_bind (wpAny_letGo (wpAny_pure (wpAny_pure (wpAny_bind (wpAny_seqItems o5 rfl (wpAny_bind (wpAny_newTuple ?_)))))))
      have sz : A5.objs.size = s.heap.objs.size := by rw [k5.1, k4.1, k3.1, k2.1, k1.1]
      have z5 : IsZip A5 z ti to .ellipsis := k5.extBut _ _ D.TOz.symm (k4.extBut _ _ D.i2z.symm z3)
      have r5 : Rest s.heap A5 z to u v := fun c o c1 c2 c3 c4 y => k5.extBut _ _ c2 (k4.extBut _ _ c4 (r3 c o c1 c2 c3 y))
      have cu5 := ((cu2.ext k3.extBut D.TOi1.symm).ext k4.extBut D.i12).ext k5.extBut D.TOi1.symm
      have cv5 := cv4.ext k5.extBut D.TOi2.symm
      show wpAny _ _ (Builtin.SmallTypes.ownedTupleHandOut (.ref z) (.ref A5.objs.size) >>= _) _ _ _
      unfold Builtin.SmallTypes.ownedTupleHandOut
      have z6 : IsZip (A5.push { cls := .type "tuple", data := .seq #[x, y] }) z ti to .ellipsis := Heap.get?_push_of_some _ z5
      refine wpAny_bind (wpAny_bind (wpAny_setField_rec z6 (by simp) fun A7 z7 k7 => ?_))
      have z7 : IsZip A7 z ti to (rawInt A5.objs.size) := z7
      refine wpAny_setField_rec z7 (by simp) fun A8 z8 k8 => ?_
      have z8 : IsZip A8 z ti to (rawInt A5.objs.size) := z8
      have up : ∀ c o, c ≠ z → A5.get? c = some o → A8.get? c = some o := fun c o c1 e => k8.extBut _ _ c1 (k7.extBut _ _ c1 (Heap.get?_push_of_some _ e))
      have far : A5.objs.size ≠ z := Nat.ne_of_gt (Heap.lt_size z5)
      have t8 : IsPair A8 A5.objs.size x y := k8.extBut _ _ far (k7.extBut _ _ far (Heap.get?_push_size _ rfl))
      have s8 : A8.objs.size = A5.objs.size + 1 := by rw [k8.1, k7.1, Heap.size_push]
      rw [sz] at z8 t8 s8
      refine wpAny_pure ?_
      show R (.done (.ret (.ref A5.objs.size))) _
      rw [sz]
      exact hret x y A8 hx hy z8 (up _ _ D.TOz o5) (cu5.mv fun o e => up _ o D.i1z e) (cv5.mv fun o e => up _ o D.i2z e) t8 s8 fun c o c1 c2 c3 c4 e => up c o c1 (r5 c o c1 c2 c3 c4 e)
end
end ZM

set_option maxRecDepth 100000
set_option maxHeartbeats 4000000
namespace ZM
open PySem PySem.Spec PyProof.Rows L2
open PySem.Sem (wp)
section
variable {prog : Program} {w : World} {A : Around} {E : Value → Shared → Prop} {s : Shared}
theorem py_any {tu tv : Bool} {z ti to u v p q : Addr} {m n : Nat} {xs ys : Array Value} {a b : Value} {Q : Option Value → Shared → Prop} (hh : A.handled = none) (D : ZipApart z ti to u v p q)
    (gz : IsZip s.heap z ti to .none) (gi : IsPair s.heap ti (.ref u) (.ref v)) (go : IsPair s.heap to a b)
    (cu : Cur tu s.heap u p m) (cv : Cur tv s.heap v q n) (su : Src tu s.heap p xs) (sv : Src tv s.heap q ys)
    (hret : ∀ x y g, xs[m]? = some x → ys[n]? = some y → IsZip g z ti to (rawInt s.heap.objs.size) → IsPair g to x y → Cur tu g u p (m + 1) → Cur tv g v q (n + 1) → IsPair g s.heap.objs.size x y →
      g.objs.size = s.heap.objs.size + 1 → Rest s.heap g z to u v → Q (some (.ref s.heap.objs.size)) { s with heap := g })
    (hstop : (xs[m]? = none ∨ ys[n]? = none) → ∀ g, Rest s.heap g z to u v → Q none { s with heap := g }) : wpAny (model prog w) A (pyNext (.ref z)) Q E s := by
  have tz : s.TypeIs (.ref z) "zip" := ⟨_, gz, rfl⟩
  unfold pyNext
  refine wpAny_bind (wpAny_attempt (wpAny_callSpecial?_slot (name := Str.ofString "__next__") tz F.slot_zip_next (wpAny_call_entry F.slot_zip_next tz F.entry_zip_next
    (next_any hh D gz gi go cu cv su sv (fun x y g a1 a2 a3 a4 a5 a6 a7 a8 a9 => ⟨_, rfl, wpAny_pure (hret x y g a1 a2 a3 a4 a5 a6 a7 a8 a9)⟩) fun he g e r ⟨o, e1, e2⟩ => ?_) (F.args_zip_next_1 _))))
  exact wpAny_bind (wpAny_isInstance (T := "StopIteration") (b := true) ⟨o, e1, e2⟩ isSubtype_stop (wpAny_pure (hstop he _ r)))
end
def itOb (t : Bool) (l : Addr) : Obj := match t with
  | true => { cls := .type "tuple_iterator", data := .fields #[.ref l, .int 0 0] }
  | false => { cls := .type "list_iterator", data := .fields #[.ref l, .int 0 0] }
abbrev N1 (tu : Bool) (h : Heap) (p : Addr) : Heap := h.push (itOb tu p)
abbrev N2 (tu tv : Bool) (h : Heap) (p q : Addr) : Heap := (N1 tu h p).push (itOb tv q)
abbrev N3 (tu tv : Bool) (h : Heap) (p q : Addr) : Heap := (N2 tu tv h p q).push { cls := .type "tuple", data := .seq #[.ref h.objs.size, .ref (N1 tu h p).objs.size] }
abbrev N4 (tu tv : Bool) (h : Heap) (p q : Addr) : Heap := (N3 tu tv h p q).push { cls := .type "tuple", data := .seq #[.none, .none] }
abbrev N5 (tu tv : Bool) (h : Heap) (p q : Addr) : Heap := (N4 tu tv h p q).push { cls := .type "zip", data := .fields #[.none, .bool false, .bool false, .ref (N2 tu tv h p q).objs.size, .ref (N3 tu tv h p q).objs.size] }
theorem new_any (tu tv : Bool) (p q : Addr) (xs ys : Array Value) :
    Meets (Builtin.«zip.__new__» ⟨[.type "zip", .ref p, .ref q], []⟩) (fun _ R s => Src tu s.heap p xs ∧ Src tv s.heap q ys ∧ R (.ok (.ret (.ref (N4 tu tv s.heap p q).objs.size))) { s with heap := N5 tu tv s.heap p q }) :=
  .of_wp fun prog w A R s h => by
    obtain ⟨hp, g, d, tk, os⟩ := s
    obtain ⟨a1, a2, h⟩ := h
    have below := sub_zip
    cases tu <;> cases tv
    · have b1 : Heap.IsList (Shared.heap ⟨hp, g, d, tk, os⟩) p xs := a1
      have b2 : Heap.IsList (Shared.heap ⟨hp.push { cls := .type "list_iterator", data := .fields #[.ref p, .int 0 0] }, g, d, tk, os⟩) q ys := Heap.IsList.push a2 _
      wp_walk using wpAny_pyIter_list b1, wpAny_pyIter_list b2
      exact ⟨_, rfl, h⟩
    · have b1 : Heap.IsList (Shared.heap ⟨hp, g, d, tk, os⟩) p xs := a1
      have b2 : Heap.IsTuple (Shared.heap ⟨hp.push { cls := .type "list_iterator", data := .fields #[.ref p, .int 0 0] }, g, d, tk, os⟩) q ys := Heap.IsTuple.push a2 _
      wp_walk using wpAny_pyIter_list b1, wpAny_pyIter_tuple b2
      exact ⟨_, rfl, h⟩
    · have b1 : Heap.IsTuple (Shared.heap ⟨hp, g, d, tk, os⟩) p xs := a1
      have b2 : Heap.IsList (Shared.heap ⟨hp.push { cls := .type "tuple_iterator", data := .fields #[.ref p, .int 0 0] }, g, d, tk, os⟩) q ys := Heap.IsList.push a2 _
      wp_walk using wpAny_pyIter_tuple b1, wpAny_pyIter_list b2
      exact ⟨_, rfl, h⟩
    · have b1 : Heap.IsTuple (Shared.heap ⟨hp, g, d, tk, os⟩) p xs := a1
      have b2 : Heap.IsTuple (Shared.heap ⟨hp.push { cls := .type "tuple_iterator", data := .fields #[.ref p, .int 0 0] }, g, d, tk, os⟩) q ys := Heap.IsTuple.push a2 _
      wp_walk using wpAny_pyIter_tuple b1, wpAny_pyIter_tuple b2
      exact ⟨_, rfl, h⟩
theorem cur_new {t : Bool} {h : Heap} {i l : Addr} (e : h.get? i = some (itOb t l)) : Cur t h i l 0 := by
  cases t
  · exact ⟨_, e, rfl, rfl⟩
  · exact ⟨_, e, rfl, rfl⟩
section
variable {prog : Program} {w : World} {A : Around} {E : Value → Shared → Prop} {s : Shared}
theorem call_any {tu tv : Bool} {p q : Addr} {xs ys : Array Value} {Q : Value → Shared → Prop} (su : Src tu s.heap p xs) (sv : Src tv s.heap q ys)
    (hQ : ∀ g, IsZip g (s.heap.objs.size + 4) (s.heap.objs.size + 2) (s.heap.objs.size + 3) .none → IsPair g (s.heap.objs.size + 2) (.ref s.heap.objs.size) (.ref (s.heap.objs.size + 1)) →
      IsPair g (s.heap.objs.size + 3) .none .none → Cur tu g s.heap.objs.size p 0 → Cur tv g (s.heap.objs.size + 1) q 0 → (∀ c o, s.heap.get? c = some o → g.get? c = some o) → Q (.ref (s.heap.objs.size + 4)) { s with heap := g }) :
    wpAny (model prog w) A (call (.type "zip") [.ref p, .ref q]) Q E s := by
  refine callType_new F.called_zip (by decide) (F.typeCall_zip_2 _ _) (F.newCall_zip_2 _ _) (fun obj => F.args_object_init_3 obj _ _) F.entry_zip_new (new_any tu tv p q xs ys) ⟨su, sv, ?_⟩
  have f1 : (itOb tu p).isFreed = false := by cases tu <;> rfl
  have f2 : (itOb tv q).isFreed = false := by cases tv <;> rfl
  have n1 : (N1 tu s.heap p).objs.size = s.heap.objs.size + 1 := Heap.size_push ..
  have n2 : (N2 tu tv s.heap p q).objs.size = s.heap.objs.size + 2 := by rw [Heap.size_push, n1]
  have n3 : (N3 tu tv s.heap p q).objs.size = s.heap.objs.size + 3 := by rw [Heap.size_push, n2]
  have n4 : (N4 tu tv s.heap p q).objs.size = s.heap.objs.size + 4 := by rw [Heap.size_push, n3]
  have u5 : ∀ {c o}, (N4 tu tv s.heap p q).get? c = some o → (N5 tu tv s.heap p q).get? c = some o := fun e => Heap.get?_push_of_some _ e
  have u4 : ∀ {c o}, (N3 tu tv s.heap p q).get? c = some o → (N5 tu tv s.heap p q).get? c = some o := fun e => u5 (Heap.get?_push_of_some _ e)
  have u3 : ∀ {c o}, (N2 tu tv s.heap p q).get? c = some o → (N5 tu tv s.heap p q).get? c = some o := fun e => u4 (Heap.get?_push_of_some _ e)
  have u2 : ∀ {c o}, (N1 tu s.heap p).get? c = some o → (N5 tu tv s.heap p q).get? c = some o := fun e => u3 (Heap.get?_push_of_some _ e)
  have c5 : (N5 tu tv s.heap p q).get? (N4 tu tv s.heap p q).objs.size = some _ := Heap.get?_push_size _ rfl
  have c4 : (N5 tu tv s.heap p q).get? (N3 tu tv s.heap p q).objs.size = some _ := u5 (Heap.get?_push_size _ rfl)
  have c3 : (N5 tu tv s.heap p q).get? (N2 tu tv s.heap p q).objs.size = some _ := u4 (Heap.get?_push_size _ rfl)
  have c2 : (N5 tu tv s.heap p q).get? (N1 tu s.heap p).objs.size = some (itOb tv q) := u3 (Heap.get?_push_size _ f2)
  have c1 : (N5 tu tv s.heap p q).get? s.heap.objs.size = some (itOb tu p) := u2 (Heap.get?_push_size _ f1)
  show _ ∧ _
  rw [n2, n3, n4] at c5
  rw [n1, n2] at c3
  rw [n3] at c4
  rw [n1] at c2
  rw [n4]
  exact ⟨⟨_, c5, rfl⟩, hQ _ c5 c3 c4 (cur_new c1) (cur_new c2) fun c o e => u2 (Heap.get?_push_of_some _ e)⟩
end
def SqG (t : Bool) (K : PySem.W.Frag) (H : Hp) (a : Addr) (xs : List V) : Prop := match t with
  | true => SqT K H a xs
  | false => SqL K H a xs
theorem src_of {X : Cx} {pins : List (Addr × Obj)} {σ : L2.St} {H : Hp} {s : Shared} {t : Bool} {a : Addr} {xs : List V} (I : Inv X pins σ H s) (h : SqG t X.K H a xs) : ∃ its : List Value, Vals xs its ∧ Src t s.heap a its.toArray ∧ a < s.heap.objs.size := by
  cases t
  · obtain ⟨its, rv, p, _⟩ := I.list h
    exact ⟨its, rv, p.isList, p.lt⟩
  · obtain ⟨its, rv, p, _⟩ := I.tuple h
    obtain ⟨o, e, _⟩ := id p
    exact ⟨its, rv, p, Heap.lt_size e⟩
theorem sq_one {X : Cx} {pins : List (Addr × Obj)} {σ : L2.St} {H : Hp} {s : Shared} {t : Bool} {a : Addr} {xs ys : List V} (I : Inv X pins σ H s) (h : SqG t X.K H a xs) (h' : SqG t X.K H a ys) : xs = ys := by
  cases t
  · exact I.list_inj h h'
  · exact I.tuple_inj h h'
/-- a and b, each a list or a tuple, as they stand at each turn -/
def Itg (K : PySem.W.Frag) (tu tv : Bool) (a b : Addr) : It :=
  ⟨fun i H => ∃ (xs ys : List V) (x y : V), SqG tu K H a xs ∧ SqG tv K H b ys ∧ xs[i]? = some x ∧ ys[i]? = some y,
    fun i H v G => ∃ N x y, v = .ref N ∧ H N = none ∧ G = upd H N (.tup [x, y]) ∧ (∀ xs, SqG tu K H a xs → xs[i]? = some x) ∧ ∀ ys, SqG tv K H b ys → ys[i]? = some y,
    fun i H => ∃ xs ys : List V, SqG tu K H a xs ∧ SqG tv K H b ys ∧ (xs.length ≤ i ∨ ys.length ≤ i)⟩
theorem turn_any {P : Program} {w : World} {K : PySem.W.Frag} {elts : List Expr} {kk : Nat} {tpos : Pos} {tu tv : Bool} {a b z ti to u v : Addr} (D : ZipApart z ti to u v a b) :
    Turn P w K (.Tuple elts kk tpos) (Itg K tu tv a b) [z, ti, to, u, v] z (fun i h => IsZip h z ti to .none ∧ IsPair h ti (.ref u) (.ref v) ∧ (∃ x y, IsPair h to x y) ∧ Cur tu h u a i ∧ Cur tv h v b i) where
  mem := List.mem_cons_self ..
  obj := fun i h st c hc => by
    obtain ⟨gz, gi, ⟨x, y, go⟩, cu, cv⟩ := st
    simp only [List.mem_cons, List.not_mem_nil, or_false] at hc
    rcases hc with rfl | rfl | rfl | rfl | rfl
    · exact ⟨_, gz, fun _ q => nomatch q⟩
    · exact ⟨_, gi, fun _ q => nomatch q⟩
    · exact ⟨_, go, fun _ q => nomatch q⟩
    · exact cu.obj
    · exact cv.obj
  keep := fun i h g st k => by
    obtain ⟨gz, gi, ⟨x, y, go⟩, cu, cv⟩ := st
    exact ⟨k z (by simp) _ gz, k ti (by simp) _ gi, ⟨x, y, k to (by simp) _ go⟩, cu.mv (k u (by simp)), cv.mv (k v (by simp))⟩
  item := by
    rintro X rfl rfl rfl hc i pins s σ H E I hf ⟨gz, gi, ⟨x0, y0, go⟩, cu, cv⟩ ⟨xs, ys, x, y, qx, qy, ex, ey⟩
    obtain ⟨as, rx, sx, lx⟩ := src_of I qx
    obtain ⟨bs, ry, sy, ly⟩ := src_of I qy
    obtain ⟨n1, en1, r1⟩ := rx.get ex
    obtain ⟨n2, en2, r2⟩ := ry.get ey
    have zl : z < s.heap.objs.size := Heap.lt_size gz
    refine py_any (I.ok.hd hc) D gz gi go cu cv sx sy (fun x' y' g e1 e2 z' go' cu' cv' gt gs rest => ?_) (fun he => ?_)
    · rw [List.getElem?_toArray, en1] at e1
      rw [List.getElem?_toArray, en2] at e2
      cases e1
      cases e2
      refine ⟨_, rfl, wpAny_letOwnedTupleGo_zip (s := { s with heap := g }) z' fun g2 z2 sb => ?_⟩
      have gt2 : g2.get? s.heap.objs.size = some { cls := .type "tuple", data := .seq #[n1, n2] } := (sb.2 _ (Nat.ne_of_gt zl)).trans gt
      have ob : ObjOk X.prog X.w (upd H s.heap.objs.size (.tup [x, y])) g2 s.heap.objs.size (.tup [x, y]) := ⟨by show 2 ≤ sizeLine; decide, [n1, n2], .cons r1 (.cons r2 .nil), ⟨_, gt2, rfl, _, rfl⟩⟩
      have far : ∀ c o, c ∉ [z, ti, to, u, v] → s.heap.get? c = some o → g2.get? c = some o := fun c o hb e => by
        simp only [List.mem_cons, List.not_mem_nil, or_false, not_or] at hb
        exact (sb.2 c hb.1).trans (rest c o hb.1 hb.2.2.1 hb.2.2.2.1 hb.2.2.2.2 e)
      refine ⟨.ref s.heap.objs.size, _, I.turnedNew (t' := s.toks) (ch := [z, ti, to, u, v]) far hf (Nat.le_refl _) ob, rfl, ⟨_, x, y, rfl, I.hok.fresh (Nat.le_refl _), rfl, fun l hl => by rw [sq_one I hl qx]; exact ex, fun l hl => by rw [sq_one I hl qy]; exact ey⟩,
        ⟨z2, (sb.2 _ D.TIz).trans (rest _ _ D.TIz D.TITO D.TIi1 D.TIi2 gi), ⟨n1, n2, (sb.2 _ D.TOz).trans go'⟩, cu'.mv fun o e => (sb.2 _ D.i1z).trans e, cv'.mv fun o e => (sb.2 _ D.i2z).trans e⟩, fun c hcm => ?_⟩
      have hlt : c < s.heap.objs.size := by
        obtain ⟨o1, f1, _⟩ := cu.obj
        obtain ⟨o2, f2, _⟩ := cv.obj
        have hcm' := hcm
        simp only [List.mem_cons, List.not_mem_nil, or_false] at hcm'
        rcases hcm' with rfl | rfl | rfl | rfl | rfl
        · exact zl
        · exact Heap.lt_size gi
        · exact Heap.lt_size go
        · exact Heap.lt_size f1
        · exact Heap.lt_size f2
      rw [upd_ne (Nat.ne_of_lt hlt)]
      exact (hf c hcm).1
    · exfalso
      rw [List.getElem?_toArray, List.getElem?_toArray, en1, en2] at he
      rcases he with he | he <;> cases he
  done := by
    rintro X rfl rfl rfl hc i pins s σ H E I hf ⟨gz, gi, ⟨x0, y0, go⟩, cu, cv⟩ ⟨xs, ys, qx, qy, he⟩
    obtain ⟨as, rx, sx, lx⟩ := src_of I qx
    obtain ⟨bs, ry, sy, ly⟩ := src_of I qy
    have l1 := rx.length
    have l2 := ry.length
    refine py_any (I.ok.hd hc) D gz gi go cu cv sx sy (fun x' y' g e1 e2 _ _ _ _ _ _ _ => ?_) (fun _ g rest => ⟨rfl, ?_⟩)
    · exfalso
      rw [List.getElem?_toArray] at e1 e2
      have m1 := (List.getElem?_eq_some_iff.1 e1).1
      have m2 := (List.getElem?_eq_some_iff.1 e2).1
      rcases he with he | he <;> omega
    · exact I.turnedL (t' := s.toks) (ch := [z, ti, to, u, v]) (fun c o hb e => by
        simp only [List.mem_cons, List.not_mem_nil, or_false, not_or] at hb
        exact rest c o hb.1 hb.2.2.1 hb.2.2.2.1 hb.2.2.2.2 e) hf
  self := fun A i s Q E st h => wpAny_pyIter_zip st.1 h
def iZipG (K : PySem.W.Frag) (ta : TA) : TI := fun σ H R => ta σ H fun vs H1 => ∃ tu tv a b xs ys, vs = [.ref a, .ref b] ∧ SqG tu K H1 a xs ∧ SqG tv K H1 b ys ∧ R (Itg K tu tv a b) H1
theorem pi_zipG {X : Cx} {e e2 : Expr} {ta : TA} {p pos tpos : Pos} {elts : List Expr} {kk : Nat} (hg : Gl X "zip") (hm : X.mg "zip" = none) (ha : PA X [e, e2] ta)
    (hs : starEach [e, e2] X.env = (false, eval e X.env) :: starEach [e2] X.env) (hpl : (backTo pos (starEach [e2] X.env)).any (·.1) = false) :
    PI X (.Tuple elts kk tpos) (.Call (.Name "zip" p) [e, e2] [] pos) (iZipG X.K ta) := by
  constructor
  intro pins s σ H R I h
  refine Call_ (ld_blt I hg hm PyProof.Rows.boot_zip (PyProof.Rows.callWith_type1 (thn (ha.run pos pins s σ H _ I h) fun us s1 ⟨vs, H1, I1, r1, tu, tv, a, b, xs, ys, ev, qa, qb, q⟩ => ?_) hs hpl))
  subst ev
  rcases r1 with _ | ⟨ru, _ | ⟨rv, _ | _⟩⟩
  cases ru
  cases rv
  obtain ⟨as, rx, sx, lx⟩ := src_of I1 qa
  obtain ⟨bs, ry, sy, ly⟩ := src_of I1 qb
  refine call_any sx sy fun g gz gi go cu cv keep => wpAny_pyIter_zip gz ?_
  have I2 : Inv X pins σ H1 { s1 with heap := g } := I1.kept (t' := s1.toks) keep
  refine ⟨_, [s1.heap.objs.size + 4, s1.heap.objs.size + 2, s1.heap.objs.size + 3, s1.heap.objs.size, s1.heap.objs.size + 1], _, _, H1, rfl, I2, turn_any (PySem.W.ktu_apart s1.heap.objs.size a b lx ly), ⟨gz, gi, ⟨_, _, go⟩, cu, cv⟩, fun c hc => ?_, q⟩
  have le : s1.heap.objs.size ≤ c := by
    simp only [List.mem_cons, List.not_mem_nil, or_false] at hc
    rcases hc with rfl | rfl | rfl | rfl | rfl <;> simp
  exact I1.fpOk le (I1.hok.fresh le)
end ZM

set_option maxRecDepth 100000
set_option maxHeartbeats 4000000
namespace VM
open PySem PySem.Spec PyProof.Rows L2
/-! zip -/
theorem zipD_get : ∀ {ds es : List D} {i : Nat} {d : D}, (zipD ds es)[i]? = some d → ∃ x y, d = .tup [x, y] ∧ ds[i]? = some x ∧ es[i]? = some y
  | [], _, i, d, e => by cases i <;> simp [zipD] at e
  | _ :: _, [], i, d, e => by cases i <;> simp [zipD] at e
  | x :: xs, y :: ys, 0, d, e => by simp [zipD] at e; exact ⟨x, y, e.symm, rfl, rfl⟩
  | x :: xs, y :: ys, i + 1, d, e => by
    have e2 : (zipD xs ys)[i]? = some d := by simpa [zipD] using e
    simpa using zipD_get e2
theorem zipD_len : ∀ (ds es : List D), (zipD ds es).length = min ds.length es.length
  | [], _ => by simp [zipD]
  | _ :: _, [] => by simp [zipD]
  | x :: xs, y :: ys => by simp only [zipD, List.length_cons, zipD_len xs ys]; omega
theorem pairRel {K : PySem.W.Frag} {L : List Addr} {H : Hp} {h : Hv} {T : Addr} {d e : D} {x y : V} (hr : HR K L H h) (hT : H T = none) (rd : Rel K L H d x) (re : Rel K L H e y) :
    Keep K H (upd H T (.tup [x, y])) ∧ HR K L (upd H T (.tup [x, y])) h ∧ Rel K L (upd H T (.tup [x, y])) (.tup [d, e]) (.ref T) :=
  ⟨Keep.new hT, hr.new hT, .tup (.inl (.inl upd_same)) (.cons (rd.mono (LE.refl _) (Keep.new hT)) (.cons (re.mono (LE.refl _) (Keep.new hT)) .nil))⟩
theorem seq_src {K : PySem.W.Frag} {L : List Addr} {H : Hp} {h : Hv} {d : D} {v : V} {z : List D × Guards} (hr : HR K L H h) (r : Rel K L H d v) (ez : seqOf d h = some z) : ∃ t a, v = .ref a ∧ (∃ xs, ZM.SqG t K H a xs) ∧
    ∀ L1 H1 h1, LE L L1 → Keep K H H1 → HR K L1 H1 h1 → guardsOk z.2 h1 = true → ∃ xs, ZM.SqG t K H1 a xs ∧ Rels K L1 H1 z.1 xs := by
  cases r with
  | @tup ds a xs ha ra =>
    cases ez
    exact ⟨true, a, rfl, ⟨xs, ha⟩, fun L1 H1 h1 le kp _ _ => ⟨xs, kp.tup _ _ ha, ra.mono le kp⟩⟩
  | @ref p a ea =>
    have look : ∀ {L1 H1 h1} {ds : List D}, LE L L1 → HR K L1 H1 h1 → (h1[p]? = some (.lst ds) ∨ h1[p]? = some (.ro ds)) → ∃ xs, ZM.SqG false K H1 a xs ∧ Rels K L1 H1 ds xs := fun {L1 H1 h1 ds} le hr1 q => by
      rcases q with q | q
      · obtain ⟨xs, q, r⟩ := hr1.lst p a ds q (le _ _ ea)
        exact ⟨xs, SqL.of q, r⟩
      · obtain ⟨xs, q, r⟩ := hr1.ro p a ds q (le _ _ ea)
        exact ⟨xs, q.seq, r⟩
    have go : ∀ ds, (h[p]? = some (.lst ds) ∨ h[p]? = some (.ro ds)) → z = (ds, [(p, ds)]) → ∃ t b, Value.ref a = .ref b ∧ (∃ xs, ZM.SqG t K H b xs) ∧ ∀ L1 H1 h1, LE L L1 → Keep K H H1 → HR K L1 H1 h1 → guardsOk z.2 h1 = true → ∃ xs, ZM.SqG t K H1 b xs ∧ Rels K L1 H1 z.1 xs := fun ds e0 e1 => by
      subst e1
      obtain ⟨xs, q, _⟩ := look (LE.refl _) hr e0
      exact ⟨false, a, rfl, ⟨xs, q⟩, fun L1 H1 h1 le _ hr1 g => look le hr1 (guards_at g (List.mem_cons_self ..))⟩
    simp only [seqOf] at ez
    split at ez
    · rename_i ds e0
      obtain ⟨t, b, e, q⟩ := go ds (.inl e0) (by cases ez; rfl)
      exact ⟨t, b, by cases e; rfl, q⟩
    · rename_i ds e0
      obtain ⟨t, b, e, q⟩ := go ds (.inr e0) (by cases ez; rfl)
      exact ⟨t, b, by cases e; rfl, q⟩
    · cases ez
  | _ => cases ez
theorem walk_zipG {K : PySem.W.Frag} {L : List Addr} {H : Hp} {a b : Addr} {tu tv : Bool} {ds es : List D} {g1 g2 : Guards}
    (ha : ∀ L1 H1 h1, LE L L1 → Keep K H H1 → HR K L1 H1 h1 → guardsOk g1 h1 = true → ∃ xs, ZM.SqG tu K H1 a xs ∧ Rels K L1 H1 ds xs)
    (hb : ∀ L1 H1 h1, LE L L1 → Keep K H H1 → HR K L1 H1 h1 → guardsOk g2 h1 = true → ∃ xs, ZM.SqG tv K H1 b xs ∧ Rels K L1 H1 es xs) :
    WalkOk K L H (ZM.Itg K tu tv a b) (zipD ds es) (g1 ++ g2) := by
  intro L1 H1 h i le kp hr g
  have g' : guardsOk g1 h = true ∧ guardsOk g2 h = true := by simpa only [guardsOk, List.all_append, Bool.and_eq_true] using g
  obtain ⟨xs, sx, rx⟩ := ha L1 H1 h le kp hr g'.1
  obtain ⟨ys, sy, ry⟩ := hb L1 H1 h le kp hr g'.2
  refine ⟨fun d e => ?_, fun e => ⟨xs, ys, sx, sy, by rw [e, zipD_len, rx.len, ry.len]; omega⟩⟩
  obtain ⟨x, y, rfl, e1, e2⟩ := zipD_get e
  obtain ⟨u, f1, r1⟩ := rx.get e1
  obtain ⟨w, f2, r2⟩ := ry.get e2
  refine ⟨⟨xs, ys, u, w, sx, sy, f1, f2⟩, fun v H' yl => ?_⟩
  obtain ⟨T, u', w', rfl, hT, rfl, q1, q2⟩ := yl
  have z1 := q1 xs sx
  have z2 := q2 ys sy
  rw [f1] at z1
  rw [f2] at z2
  cases z1
  cases z2
  exact pairRel hr hT r1 r2
/-! enumerate -/
theorem enumD_get : ∀ {ds : List D} {k i : Nat} {d : D}, (enumD k ds)[i]? = some d → ∃ x, d = .tup [.int ((k + i : Nat) : Int), x] ∧ ds[i]? = some x
  | [], _, i, d, e => by cases i <;> simp [enumD] at e
  | x :: xs, k, 0, d, e => by simp [enumD] at e; exact ⟨x, e.symm, rfl⟩
  | x :: xs, k, i + 1, d, e => by
    have e2 : (enumD (k + 1) xs)[i]? = some d := by simpa [enumD] using e
    obtain ⟨y, h1, h2⟩ := enumD_get e2
    exact ⟨y, by rw [h1]; congr 4; omega, by simpa using h2⟩
theorem enumD_len : ∀ (ds : List D) (k : Nat), (enumD k ds).length = ds.length
  | [], _ => rfl
  | x :: xs, k => by simp only [enumD, List.length_cons, enumD_len xs (k + 1)]
theorem walk_enumL {K : PySem.W.Frag} {L : List Addr} {H : Hp} {a : Addr} {p : Nat} {ds : List D} (ea : L[p]? = some a) : WalkOk K L H (Ite K a) (enumD 0 ds) [(p, ds)] := by
  intro L1 H1 h i le kp hr g
  have at_ : ∃ xs, SqL K H1 a xs ∧ Rels K L1 H1 ds xs := by
    rcases guards_at g (List.mem_cons_self ..) with z | z
    · obtain ⟨xs, q, r⟩ := hr.lst p a ds z (le _ _ ea)
      exact ⟨xs, SqL.of q, r⟩
    · obtain ⟨xs, q, r⟩ := hr.ro p a ds z (le _ _ ea)
      exact ⟨xs, q.seq, r⟩
  obtain ⟨xs, sq, r⟩ := at_
  refine ⟨fun d e => ?_, fun e => ⟨xs, sq, by rw [e, enumD_len, r.len]; exact Nat.le_refl _⟩⟩
  obtain ⟨x, rfl, e1⟩ := enumD_get e
  obtain ⟨v, e2, rv⟩ := r.get e1
  refine ⟨⟨xs, v, sq, e2⟩, fun y H' yl => ?_⟩
  obtain ⟨T, u, rfl, hT, rfl, f⟩ := yl
  have z := f xs sq
  rw [e2] at z
  cases z
  exact pairRel hr hT (by rw [Nat.zero_add]; exact .int _) rv
/-- the tuple at a, each item in a new pair -/
def IteT (K : PySem.W.Frag) (a : Addr) : It :=
  ⟨fun i H => ∃ (xs : List V) (x : V), SqT K H a xs ∧ xs[i]? = some x, fun i H v H' => ∃ T x, v = .ref T ∧ H T = none ∧ H' = upd H T (.tup [.int (i : Nat), x]) ∧ ∀ xs, SqT K H a xs → xs[i]? = some x, fun i H => ∃ xs : List V, SqT K H a xs ∧ xs.length ≤ i⟩
theorem walk_enumT {K : PySem.W.Frag} {L : List Addr} {H : Hp} {a : Addr} {ds : List D} {xs : List V} (ha : SqT K H a xs) (r : Rels K L H ds xs) : WalkOk K L H (IteT K a) (enumD 0 ds) [] := by
  intro L1 H1 h i le kp hr g
  have sq := kp.tup _ _ ha
  refine ⟨fun d e => ?_, fun e => ⟨xs, sq, by rw [e, enumD_len, r.len]; exact Nat.le_refl _⟩⟩
  obtain ⟨x, rfl, e1⟩ := enumD_get e
  obtain ⟨v, e2, rv⟩ := r.get e1
  refine ⟨⟨xs, v, sq, e2⟩, fun y H' yl => ?_⟩
  obtain ⟨T, u, rfl, hT, rfl, f⟩ := yl
  have z := f xs sq
  rw [e2] at z
  cases z
  exact pairRel hr hT (by rw [Nat.zero_add]; exact .int _) (rv.mono le kp)
/-- enumerate over a tuple: how its parts turn -/
theorem turn_enumT {P : Program} {w : World} {K : PySem.W.Frag} {elts : List Expr} {kk : Nat} {tpos : Pos} (a e it : Addr) (ha : a < it) :
    Turn P w K (.Tuple elts kk tpos) (IteT K a) [e, it] e (fun i h => (∃ old, IsEnum h e it ((i : Nat) : Int) old) ∧ h.IsTupleIter it a i ∧ e ≠ it ∧ a ≠ e) where
  mem := List.mem_cons_self ..
  obj := by
    rintro i h ⟨⟨old, he⟩, ⟨o, ho, hc, hd⟩, _⟩ b hb
    rcases List.mem_cons.mp hb with rfl | hb
    · exact ⟨_, he, fun v q => nomatch q⟩
    · obtain rfl : b = it := by simpa using hb
      exact ⟨o, ho, fun v q => by rw [hd] at q; cases q⟩
  keep := by
    rintro i h h' ⟨⟨old, he⟩, hi, hne⟩ k
    exact ⟨⟨old, k e (List.mem_cons_self ..) _ he⟩, hi.at fun o q => k it (by simp) o q, hne⟩
  item := by
    intro X hP hw hK hc i pins s σ H E I hf st hg
    subst hP hw hK
    obtain ⟨⟨old, he⟩, hit, hne, hae⟩ := st
    obtain ⟨xs, x, hq, hx⟩ := hg
    obtain ⟨its, rv, tp, hz⟩ := I.tuple hq
    obtain ⟨u, hu, ru⟩ := rv.get hx
    have hel : e < s.heap.objs.size := Heap.lt_size he
    have hil : it < s.heap.objs.size := let ⟨_, q, _⟩ := hit; Heap.lt_size q
    have hi : i < its.toArray.size := by
      have := (List.getElem?_eq_some_iff.mp hu).1
      simpa using this
    have Dr := Draws.tuple (prog := X.prog) (w := X.w) (A := X.A.in1) (by show X.A.handled = none; exact I.ok.hd hc) it a (Nat.ne_of_lt ha) its.toArray
    refine wpAny_pyNext_enum_itemD Dr he ⟨hit, tp⟩ hi hne (by simp only [List.mem_cons, List.not_mem_nil, or_false, not_or]; exact ⟨hne, hae.symm⟩) fun y h' tk hy ho hst hT hsz hk => ?_
    obtain rfl : u = y := by
      have z : its[i]? = some y := by simpa using hy
      rw [hu] at z
      exact Option.some.inj z
    refine ⟨_, rfl, wpAny_letOwnedTupleGo_enum (s := { s with heap := h', toks := tk + 1 }) ho fun h2 he2 sb => ?_⟩
    have hT2 : h2.get? s.heap.objs.size = some { cls := .type "tuple", data := .seq #[.int i tk, u] } := (sb.2 _ (Nat.ne_of_gt hel)).trans hT
    have nw : ObjOk X.prog X.w (upd H s.heap.objs.size (.tup [.int (i : Nat), x])) h2 s.heap.objs.size (.tup [.int (i : Nat), x]) :=
      ⟨by rw [sizeLine_eq]; exact (by decide : 2 ≤ 16777216), [.int i tk, u], .cons ⟨tk, rfl⟩ (.cons ru .nil), ⟨_, hT2, rfl, 0, rfl⟩⟩
    have I1 : Inv X pins σ (upd H s.heap.objs.size (.tup [.int (i : Nat), x])) { s with heap := h2, toks := tk + 1 } := by
      refine I.turnedNew (ch := [e, it]) (fun b ob hb q => ?_) hf (Nat.le_refl _) nw
      have n1 : b ≠ e := fun z => hb (by rw [z]; exact List.mem_cons_self ..)
      have n2 : b ≠ it := fun z => hb (by rw [z]; simp)
      exact (sb.2 b n1).trans (hk b ob n1 n2 q)
    refine ⟨.ref s.heap.objs.size, _, I1, rfl, ⟨_, x, rfl, I.hok.fresh (Nat.le_refl _), rfl, fun ys hy => by rw [I.tuple_inj hy hq]; exact hx⟩, ⟨⟨u, ?_⟩, hst.1.at fun o q => (sb.2 it (Ne.symm hne)).trans q, hne, hae⟩, fun b hb => ?_⟩
    · have e1 : ((i + 1 : Nat) : Int) = (i : Int) + 1 := by omega
      rw [e1]
      exact he2
    · have lt : b < s.heap.objs.size := by
        rcases List.mem_cons.mp hb with rfl | hb
        · exact hel
        · obtain rfl : b = it := by simpa using hb
          exact hil
      rw [upd_ne (Nat.ne_of_lt lt)]
      exact (hf b hb).1
  done := by
    intro X hP hw hK hc i pins s σ H E I hf st hg
    subst hP hw hK
    obtain ⟨⟨old, he⟩, hit, hne, hae⟩ := st
    obtain ⟨xs, hq, hx⟩ := hg
    obtain ⟨its, rv, tp, hz⟩ := I.tuple hq
    obtain ⟨f0, f1, f2, f3, f4, f5⟩ := hf it (by simp)
    have hl := rv.length
    have len : its.toArray.size ≤ i := by rw [List.size_toArray]; omega
    have end_ : wpAny (model X.prog X.w) X.A.in1 (Builtin.SmallTypes.nextOf (.ref it)) (fun _ _ => False) (fun v s' => ∃ h' x, v = .ref x ∧ Heap.ExtBut it s.heap h' ∧ (∃ o, h'.get? x = some o ∧ o.cls = .type "StopIteration") ∧ s' = { s with heap := h' }) s :=
      wpAny_nextOf_tuple_end (I.ok.hd hc) hit tp (Array.getElem?_eq_none len) fun h' x e1 e2 => ⟨h', x, rfl, e1, e2, rfl⟩
    have hT : s.TypeIs (.ref e) "enumerate" := ⟨_, he, rfl⟩
    unfold pyNext
    refine wpAny_bind (wpAny_attempt (wpAny_callSpecial?_slot (name := Str.ofString "__next__") hT F.slot_enumerate_next (wpAny_call_entry F.slot_enumerate_next hT F.entry_enumerate_next ?_ (F.args_enumerate_next_1 _))))
    show wpAny _ _ (field (.ref e) 2 >>= _) _ _ s
    refine wpAny_bind (wpAny_field he rfl (x := .ref it) rfl ?_)
    refine wpAny_bind (wpAny_mono end_ (fun _ _ z => z.elim) fun v s' z => ?_)
    obtain ⟨h', x, rfl, eb, ⟨o, ho, hcl⟩, rfl⟩ := z
    refine wpAny_bind (wpAny_isInstance (T := "StopIteration") (b := true) ⟨o, ho, hcl⟩ isSubtype_stop ?_)
    exact wpAny_pure ⟨rfl, I.turned (t' := s.toks) (fun b o hb q => eb b o hb q) f0 f1 f3 f4 f5⟩
  self := fun A i s Q E st h => let ⟨⟨_, he⟩, _⟩ := st; wpAny_pyIter_enum he h
theorem enum_newT (l : Addr) (items : Array Value) (n : Nat) (dct : Option Addr) (sl : Array (Option Value)) :
    Meets (Builtin.«enumerate.__new__» ⟨[.type "enumerate", .ref l], []⟩) (fun _ R s => s.heap.get? l = some { cls := .type "tuple", dict := dct, data := .seq items n, slots := sl } ∧
      R (.ok (.ret (.ref (s.heap.push { cls := .type "tuple_iterator", data := .fields #[.ref l, .int 0 0] }).objs.size)))
        { s with heap := (s.heap.push { cls := .type "tuple_iterator", data := .fields #[.ref l, .int 0 0] }).push { cls := .type "enumerate", data := .fields #[.none, .bool false, .ref s.heap.objs.size, rawInt 0, .none, .none] } }) := by
  refine .of_wp fun prog w A R s hh => ?_
  rcases s with ⟨hp, g, d, tk, os⟩
  rcases hh with ⟨hl, h⟩
  have hsub := sub_enumerate
  have hL : Heap.IsTuple (Shared.heap ⟨hp, g, d, tk, os⟩) l items := ⟨_, hl, rfl, n, rfl⟩
  wp_walk using AutoSeq1.wpAny_loadPart' hl
  refine wpAny_stack_any fun st => wpAny_pure ?_
  split
  · rename_i c _ _ _ _ _
    cases (c == Value.type "enumerate") <;> (wp_walk using AutoSeq1.wpAny_loadPart' hl, wpAny_pyIter_tuple hL; exact ⟨_, rfl, h⟩)
  · (wp_walk using AutoSeq1.wpAny_loadPart' hl, wpAny_pyIter_tuple hL); exact ⟨_, rfl, h⟩
theorem call_enumT {prog : Program} {w : World} {A : Around} {E : Value → Shared → Prop} {s : Shared} {l : Addr} {items : Array Value} {Q : Value → Shared → Prop} (hL : IsTup s.heap l items)
    (h : ∀ h', IsEnum h' (s.heap.objs.size + 1) s.heap.objs.size 0 .none → h'.IsTupleIter s.heap.objs.size l 0 → (∀ b o, s.heap.get? b = some o → h'.get? b = some o) → Q (.ref (s.heap.objs.size + 1)) { s with heap := h' }) :
    wpAny (model prog w) A (call (.type "enumerate") [.ref l]) Q E s := by
  rcases hL with ⟨⟨c, dct, dt, sl⟩, hl, hc, n, hd⟩
  cases (show c = .type "tuple" from hc)
  cases (show dt = .seq items n from hd)
  refine callType_new F.called_enumerate (by decide) (F.typeCall_enumerate_1 _) (F.newCall_enumerate_1 _) (fun obj => F.args_object_init_2 obj _) F.entry_enumerate_new (enum_newT l items n dct sl) ⟨hl, ?_⟩
  have sz : (s.heap.push { cls := .type "tuple_iterator", data := .fields #[.ref l, .int 0 0] }).objs.size = s.heap.objs.size + 1 := Heap.size_push ..
  show _ ∧ _
  rw [sz]
  have he : IsEnum ((s.heap.push { cls := .type "tuple_iterator", data := .fields #[.ref l, .int 0 0] }).push { cls := .type "enumerate", data := .fields #[.none, .bool false, .ref s.heap.objs.size, rawInt 0, .none, .none] }) (s.heap.objs.size + 1) s.heap.objs.size 0 .none := by
    have z := Heap.get?_push_size (s.heap.push { cls := .type "tuple_iterator", data := .fields #[.ref l, .int 0 0] }) (o := { cls := .type "enumerate", data := .fields #[.none, .bool false, .ref s.heap.objs.size, rawInt 0, .none, .none] }) rfl
    rw [sz] at z
    exact z
  exact ⟨⟨_, he, rfl⟩, h _ he ⟨_, Heap.get?_push_of_some _ (Heap.get?_push_size _ rfl), rfl, rfl⟩ fun b o x => Heap.get?_push_of_some _ (Heap.get?_push_of_some _ x)⟩
section
variable {X : Cx} {W : WX} {pos : Pos}
theorem i_enum {a : Expr} {elts : List Expr} {kk : Nat} {p tpos : Pos} (C : Or) {fa : EF} (hg : Gl X "enumerate") (hm : X.mg "enumerate" = none) (ha : PE X a (tE X W (fa C))) (s1 : starEach [a] X.env = (false, eval a X.env) :: starEach [] X.env) :
    PI X (.Tuple elts kk tpos) (.Call (.Name "enumerate" p) [a] [] pos) (tI X W (itN fa C)) := by
  refine ⟨fun pins s σ H R_ I q => ?_⟩
  obtain ⟨L, h, env, hr, sr, hp⟩ := q
  have go : tE X W (fa C) σ H fun x H1 => ∃ a, x = .ref a ∧ ((∃ xs, SqL X.K H1 a xs ∧ R_ (Ite X.K a) H1) ∨ ∃ xs, SqT X.K H1 a xs ∧ R_ (IteT X.K a) H1) := by
    refine ⟨L, h, env, hr, sr, pRg.then_ hp fun d h1 L1 H1 v le kp hr1 r1 hp1 => ?_⟩
    split at hp1
    · rename_i z ez
      cases r1 with
      | @tup ds a xs ha ra =>
        cases ez
        exact ⟨a, rfl, .inr ⟨xs, ha, hp1 L1 H1 _ (LE.refl _) (Keep.refl _) hr1 (walk_enumT ha ra)⟩⟩
      | @ref p a ea =>
        simp only [seqOf] at ez
        split at ez
        · rename_i ds e0
          cases ez
          obtain ⟨xs, q, s⟩ := hr1.lst p a ds e0 ea
          exact ⟨a, rfl, .inl ⟨xs, SqL.of q, hp1 L1 H1 _ (LE.refl _) (Keep.refl _) hr1 (walk_enumL ea)⟩⟩
        · rename_i ds e0
          cases ez
          obtain ⟨xs, q, s⟩ := hr1.ro p a ds e0 ea
          exact ⟨a, rfl, .inl ⟨xs, q.seq, hp1 L1 H1 _ (LE.refl _) (Keep.refl _) hr1 (walk_enumL ea)⟩⟩
        · cases ez
      | _ => cases ez
    · exact hp1.elim
  have hA : PA X [a] (fun σ H Q => tE X W (fa C) σ H fun x H1 => Q [x] H1) := PA.weak (pa_cons ha pa_nil s1) fun σ H Q z => z
  refine Call_ (ld_blt I hg hm boot_enumerate (PyProof.Rows.callWith_type1 (thn (hA.run pos pins s σ H (fun vs H1 => ∃ a, vs = [.ref a] ∧ ((∃ xs, SqL X.K H1 a xs ∧ R_ (Ite X.K a) H1) ∨ ∃ xs, SqT X.K H1 a xs ∧ R_ (IteT X.K a) H1)) I ?_) fun us s1 ⟨vs, H1, I1, r1, q1⟩ => ?_) (by rw [s1] <;> rfl) rfl))
  · obtain ⟨L, h, env, hr, sr, hp⟩ := go
    exact ⟨L, h, env, hr, sr, pRg.then_ (g := fun d h => R.ok d h) (ρ' := Rel X.K) (Q := fun x H1 => ∃ a, x = .ref a ∧ ((∃ xs, SqL X.K H1 a xs ∧ R_ (Ite X.K a) H1) ∨ ∃ xs, SqT X.K H1 a xs ∧ R_ (IteT X.K a) H1)) (by
      cases z : fa C env h with
      | ok d h1 => rw [z] at hp; exact hp
      | exc c d h1 => rw [z] at hp; exact hp
      | stuck => rw [z] at hp; exact hp) fun d h1 L1 H1 v le kp hr1 r1 hp1 => by
        obtain ⟨a, rfl, z⟩ := hp1 L1 H1 v (LE.refl _) (Keep.refl _) hr1 r1
        exact ⟨a, rfl, z⟩⟩
  · obtain ⟨a, ev, q1⟩ := q1
    subst ev
    obtain ⟨u, rfl, ru⟩ := Vals.one r1
    cases (show u = Value.ref a from ru)
    rcases q1 with ⟨xs, sq, q1⟩ | ⟨xs, sq, q1⟩
    · obtain ⟨its, rv, pl, hz⟩ := I1.list sq
      refine call_enumerate_list pl.isList fun h' he hit hsz hk => wpAny_pyIter_enum he ?_
      have I2 : Inv X pins σ H1 { s1 with heap := h' } := I1.kept (t' := s1.toks) hk
      refine ⟨s1.heap.objs.size + 1, [s1.heap.objs.size + 1, s1.heap.objs.size], _, _, H1, rfl, I2, turn_enum a (s1.heap.objs.size + 1) s1.heap.objs.size, ⟨⟨.none, he⟩, hit, Nat.succ_ne_self _⟩, fun b hb => ?_, q1⟩
      have le : s1.heap.objs.size ≤ b := by
        have z : b = s1.heap.objs.size + 1 ∨ b = s1.heap.objs.size := by simpa using hb
        rcases z with z | z <;> rw [z]
        · exact Nat.le_succ _
        · exact Nat.le_refl _
      exact I1.fpOk le (I1.hok.fresh le)
    · obtain ⟨its, rv, tp, hz⟩ := I1.tuple sq
      have al : a < s1.heap.objs.size := let ⟨_, q, _⟩ := tp; Heap.lt_size q
      refine call_enumT tp fun h' he hit hk => wpAny_pyIter_enum he ?_
      have I2 : Inv X pins σ H1 { s1 with heap := h' } := I1.kept (t' := s1.toks) hk
      refine ⟨s1.heap.objs.size + 1, [s1.heap.objs.size + 1, s1.heap.objs.size], _, _, H1, rfl, I2, turn_enumT a (s1.heap.objs.size + 1) s1.heap.objs.size al, ⟨⟨.none, he⟩, hit, Nat.succ_ne_self _, Nat.ne_of_lt (Nat.lt_succ_of_lt al)⟩, fun b hb => ?_, q1⟩
      have le : s1.heap.objs.size ≤ b := by
        have z : b = s1.heap.objs.size + 1 ∨ b = s1.heap.objs.size := by simpa using hb
        rcases z with z | z <;> rw [z]
        · exact Nat.le_succ _
        · exact Nat.le_refl _
      exact I1.fpOk le (I1.hok.fresh le)
theorem i_zip {a b : Expr} {elts : List Expr} {kk : Nat} {p tpos : Pos} (C : Or) {fa fb : EF} (hg : Gl X "zip") (hm : X.mg "zip" = none) (ha : PE X a (tE X W (fa C))) (hb : PE X b (tE X W (fb C)))
    (s1 : starEach [a, b] X.env = (false, eval a X.env) :: starEach [b] X.env) (s2 : starEach [b] X.env = (false, eval b X.env) :: starEach [] X.env) : PI X (.Tuple elts kk tpos) (.Call (.Name "zip" p) [a, b] [] pos) (tI X W (itZ fa fb C)) :=
  PI.weak (ZM.pi_zipG hg hm (pa_cons ha (pa_cons hb pa_nil s2) s1) s1 (by rw [s2]; rfl)) fun σ H Q ⟨L, h, env, hr, sr, hp⟩ => ⟨L, h, env, hr, sr, pRg.then_ hp fun d h1 L1 H1 v le kp hr1 r1 hp1 => ⟨L1, h1, env, hr1, sr.mono le kp, pRg.then_ hp1 fun d2 h2 L2 H2 v2 le2 kp2 hr2 r2 hp2 => by
    have r1' := r1.mono le2 kp2
    split at hp2
    · rename_i z w ez ew
      obtain ⟨tu, a, rfl, ⟨xs, qa⟩, ka⟩ := seq_src hr2 r1' ez
      obtain ⟨tv, b, rfl, ⟨ys, qb⟩, kb⟩ := seq_src hr2 r2 ew
      exact ⟨tu, tv, a, b, xs, ys, rfl, qa, qb, hp2 L2 H2 _ (LE.refl _) (Keep.refl _) hr2 (walk_zipG ka kb)⟩
    · exact hp2.elim⟩⟩
/-! isinstance -/
theorem kit_isi {K : PySem.W.Frag} {t T : String} (ht : t ∈ ["NoneType", "bool", "int", "str", "tuple", "list"]) (hT : T ∈ ["bool", "int", "str", "tuple", "list", "dict"]) : PySem.W.kitOne K (.type t) (.type T) = some (isiD t T) := by
  have z : kitB t T = some (isiD t T) := by
    have all : ∀ t ∈ ["NoneType", "bool", "int", "str", "tuple", "list"], ∀ T ∈ ["bool", "int", "str", "tuple", "list", "dict"], kitB t T = some (isiD t T) := by decide +kernel
    exact all t ht T hT
  exact kit_ty z
theorem ty_of {K : PySem.W.Frag} {L : List Addr} {H : Hp} {h : Hv} (hr : HR K L H h) {d : D} {v : V} (r : Rel K L H d v) {t : String} (e : tyD d h = some t) : TyX K H v (.type t) ∧ t ∈ ["NoneType", "bool", "int", "str", "tuple", "list"] := by
  cases r with
  | non => cases e; exact ⟨.base .non, by decide⟩
  | bl b => cases e; exact ⟨.base (.bl b), by decide⟩
  | int b => cases e; exact ⟨.base (.int b), by decide⟩
  | str b => cases e; exact ⟨.base (.str b), by decide⟩
  | @tup ds a xs ha ra =>
    cases e
    refine ⟨?_, by decide⟩
    rcases ha with (ha | ⟨o, ha⟩) | ⟨o, its, n, hk, hc, _⟩
    · exact .base (.tup ha)
    · exact .fTuple ha
    · exact .kTuple hk hc
  | @ref p a ea =>
    simp only [tyD] at e
    split at e
    · rename_i ob e0
      cases e
      refine ⟨?_, by decide⟩
      cases ob with
      | lst ds =>
        obtain ⟨xs, q, s⟩ := hr.lst p a ds e0 ea
        exact .base (.lst q)
      | ro ds =>
        obtain ⟨xs, q, s⟩ := hr.ro p a ds e0 ea
        rcases q with ⟨o, q⟩ | ⟨o, its, n, hk, hc, _⟩
        · exact .base (.frz q)
        · exact .kList hk hc
    · cases e
theorem r_isi {a : Expr} {T : Str} {Ts : String} {p p2 : Pos} (C : Or) {fa : EF} (hg : Gl X "isinstance") (hm : X.mg "isinstance" = none) (hgT : Gl X T) (hmT : X.mg T = none) (hv : bootBuiltins T = some (.type Ts)) (hT : Ts ∈ ["bool", "int", "str", "tuple", "list", "dict"]) (hn : T ≠ "__name__") (hd : (T == ("__debug__" : Str)) = false)
    (ha : PE X a (tE X W (fa C))) (s1 : starEach [a, .Name T p2] X.env = (false, eval a X.env) :: starEach [.Name T p2] X.env) : PE X (.Call (.Name "isinstance" p) [a, .Name T p2] [] pos) (tE X W (un1F (isiF Ts) fa C)) :=
  PE.weak (pe_callB call_isi hg hm boot_isinstance (pa_cons ha (pa_cons (pe_bltn (v := .ty Ts) hgT hmT hv rfl hn hd) pa_nil rfl) s1) (by decide) (by decide) s1 rfl) fun σ H Q ⟨L, h, env, hr, sr, hp⟩ => ⟨L, h, env, hr, sr, pRg.then_ hp fun d h1 L1 H1 v le kp hr1 r1 hp1 => by
    unfold isiF at hp1
    split at hp1
    · rename_i t e
      obtain ⟨ty, mem⟩ := ty_of hr1 r1 e
      exact ⟨v, .ty Ts, _, _, _, rfl, .ty Ts, ty, kit_isi mem hT, here hr1 hp1 (.bl _)⟩
    · exact hp1.elim⟩
end
end VM

set_option maxRecDepth 100000
set_option maxHeartbeats 4000000
namespace VM
open PySem PySem.Spec PyProof.Rows L2
/-! tuple times 0, times 1 -/
theorem tmul_same (l : Addr) (items : Array Value) (n : Nat) (dd : Option Addr) (sl : Array (Option Value)) (x : Int) (u : Tok) (q0 : (decide (x < -(2 ^ 63)) || decide (x ≥ 2 ^ 63)) = false) (q1 : (items.isEmpty || x == 1) = true) :
    Meets (Builtin.«tuple.__mul__» ⟨[.ref l, .int x u], []⟩) (fun _ R s => s.heap.get? l = some { cls := .type "tuple", dict := dd, data := .seq items n, slots := sl } ∧ R (.ok (.ret (Value.ref l))) s) := by
  refine .of_wp fun prog w A R s hh => ?_
  rcases s with ⟨hp, g, d, tk, os⟩
  rcases hh with ⟨hl, h⟩
  have f1 := AutoSeq1.idx_int
  wp_walk using AutoSeq1.wpAny_loadPart' hl
  repeat (first
    | (refine wpAny_ite_false (decide_eq_false (by rw [q0]; exact Bool.false_ne_true)) ?_; wp_walk using AutoSeq1.wpAny_loadPart' hl)
    | (refine wpAny_ite_true (decide_eq_true q1) ?_; wp_walk using AutoSeq1.wpAny_loadPart' hl))
  exact ⟨_, rfl, h⟩
theorem tmul_none (l : Addr) (items : Array Value) (n : Nat) (dd : Option Addr) (sl : Array (Option Value)) (x : Int) (u : Tok) (q0 : (decide (x < -(2 ^ 63)) || decide (x ≥ 2 ^ 63)) = false) (q1 : (items.isEmpty || x == 1) = false) (q2 : (decide (x ≤ 0) || items.isEmpty) = true) :
    Meets (Builtin.«tuple.__mul__» ⟨[.ref l, .int x u], []⟩) (fun _ R s => s.heap.get? l = some { cls := .type "tuple", dict := dd, data := .seq items n, slots := sl } ∧
      R (.ok (.ret (Value.ref s.heap.objs.size))) { s with heap := s.heap.push { cls := Value.type "tuple", data := Data.seq #[] }, toks := s.toks }) := by
  refine .of_wp fun prog w A R s hh => ?_
  rcases s with ⟨hp, g, d, tk, os⟩
  rcases hh with ⟨hl, h⟩
  have f1 := AutoSeq1.idx_int
  wp_walk using AutoSeq1.wpAny_loadPart' hl
  repeat (first
    | (refine wpAny_ite_false (decide_eq_false (by rw [q0]; exact Bool.false_ne_true)) ?_; wp_walk using AutoSeq1.wpAny_loadPart' hl)
    | (refine wpAny_ite_false (decide_eq_false (by rw [q1]; exact Bool.false_ne_true)) ?_; wp_walk using AutoSeq1.wpAny_loadPart' hl)
    | (refine wpAny_ite_true (decide_eq_true q2) ?_; wp_walk using AutoSeq1.wpAny_loadPart' hl))
  exact ⟨_, rfl, h⟩
/-- the tuple where it is empty or once; a new empty one -/
def rRep01 (K : PySem.W.Frag) : R2 := fun x y H Q => ∃ l k xs, x = .ref l ∧ y = .int k ∧ SqT K H l xs ∧ ((k = 1 ∧ Q (.ref l) H) ∨ (k = 0 ∧ (xs = [] → Q (.ref l) H) ∧ (xs ≠ [] → ∀ p, H p = none → Q (.ref p) (upd H p (.tup [])))))
theorem op_rep01 {X : Cx} : OpR X (binaryOp .Mult) (rRep01 X.K) := by
  intro pins s σ H x y v u Q I rx ry h
  obtain ⟨l, k, xs, rfl, rfl, hT, q⟩ := h
  cases rx
  obtain ⟨t, rfl⟩ := ry
  obtain ⟨its, r, ⟨⟨cls, dd, data, sl⟩, ho, hc, n, hd⟩, hs⟩ := I.tuple hT
  cases (show cls = .type "tuple" from hc)
  cases (show data = .seq its.toArray n from hd)
  have len : its.length = xs.length := r.length.symm
  have hk : k = 0 ∨ k = 1 := by
    rcases q with ⟨rfl, _⟩ | ⟨rfl, _⟩
    · exact .inr rfl
    · exact .inl rfl
  have q0 : (decide (k < -(2 ^ 63)) || decide (k ≥ 2 ^ 63)) = false := by
    rcases hk with rfl | rfl <;> decide
  have run : ∀ {Q' : Value → Shared → Prop}, (∀ A, codeAny (model X.prog X.w) A (.builtin "tuple.__mul__" ⟨[.ref l, .int k t], []⟩) (fun r s' => ∃ v, r = .ok (.ret v) ∧ Q' v s') s → True) → True := fun _ => trivial
  have same : (its.toArray.isEmpty || k == 1) = true → Q (.ref l) H → wpAny (model X.prog X.w) X.A (binaryOp .Mult (.ref l) (.int k t)) (EP X pins σ Q) X.xe s := fun q1 qq => by
    refine wpAny_binaryOp_repeat_ref (T := "tuple") (U := "int") (by decide) ⟨_, ho, rfl⟩ (fun s' => typeIs_int s' k t) noFill_tuple_mul F.fills_int_mul F.slot_int_rmul repeat_tuple F.slot_int_index.lookup
      (call_meets F.slot_int_rmul (typeIs_int s k t) F.entry_int_rmul (F.args_int_rmul_2 _ _) (int_rmul_tuple k t l its.toArray n dd sl)
        ⟨ho, rfl, ⟨_, ho, rfl⟩, call_meets F.slot_tuple_mul ⟨_, ho, rfl⟩ F.entry_tuple_mul (F.args_tuple_mul_2 _ _) (tmul_same l its.toArray n dd sl k t q0 q1) ⟨ho, ?_⟩⟩)
    exact ⟨.ref l, H, I, rfl, qq⟩
  rcases q with ⟨rfl, qq⟩ | ⟨rfl, qe, qn⟩
  · exact same (by simp) qq
  · cases its with
    | nil =>
      have e : xs = [] := by cases xs with | nil => rfl | cons _ _ => simp at len
      exact same (by simp) (qe e)
    | cons i0 ir =>
      have e : xs ≠ [] := by intro z; subst z; simp at len
      refine wpAny_binaryOp_repeat_ref (T := "tuple") (U := "int") (by decide) ⟨_, ho, rfl⟩ (fun s' => typeIs_int s' 0 t) noFill_tuple_mul F.fills_int_mul F.slot_int_rmul repeat_tuple F.slot_int_index.lookup
        (call_meets F.slot_int_rmul (typeIs_int s 0 t) F.entry_int_rmul (F.args_int_rmul_2 _ _) (int_rmul_tuple 0 t l (i0 :: ir).toArray n dd sl)
          ⟨ho, rfl, ⟨_, ho, rfl⟩, call_meets F.slot_tuple_mul ⟨_, ho, rfl⟩ F.entry_tuple_mul (F.args_tuple_mul_2 _ _) (tmul_none l (i0 :: ir).toArray n dd sl 0 t q0 (by simp) (by simp)) ⟨ho, ?_⟩⟩)
      refine ⟨.ref s.heap.objs.size, _, I.laid (t' := s.toks) (o := .tup []) (fun b ob q => Heap.get?_push_of_some _ q) (Nat.le_refl _) ?_, rfl, qn e _ (I.hok.fresh (Nat.le_refl _))⟩
      exact ⟨Nat.zero_le _, [], .nil, IsTup.new _ _⟩
section
variable {X : Cx} {W : WX} {pos : Pos}
def rMulA (K : PySem.W.Frag) : R2 := fun x y H Q => rI CMul (fun i j => .int (i * j)) x y H Q ∨ rI CMulW (fun i j => .int (i * j)) x y H Q ∨ rRep x y H Q ∨ rRepT K x y H Q ∨ rRep01 K x y H Q
theorem op_mulA : OpR X (binaryOp .Mult) (rMulA X.K) := op_mul.or (op_mulW.or (op_rep.or (op_repT.or op_rep01)))
theorem o_mul : OkR X W opMul (rMulA X.K) := by
  intro L H h σ d1 d2 v1 v2 Q hr r1 r2 hp
  cases r1 with
  | int i =>
    cases r2 with
    | int j =>
      simp only [opMul] at hp
      split at hp
      · rename_i hz
        have big : ∀ {z : Int}, z.natAbs < big64 → -(2 ^ 64) < z ∧ z < 2 ^ 64 := fun {z} q => by
          have q2 : z.natAbs < 18446744073709551616 := q
          omega
        rcases hz with hz | hz | ⟨h1, h2⟩
        · exact .inl ⟨i, j, rfl, rfl, .inl (big hz), here hr hp (.int _)⟩
        · exact .inl ⟨i, j, rfl, rfl, .inr (big hz), here hr hp (.int _)⟩
        · exact .inr (.inl ⟨i, j, rfl, rfl, wide_mul h1 h2 (by decide) (by decide) (by decide), here hr hp (.int _)⟩)
      · exact hp.elim
    | _ => exact hp.elim
  | @ref p a ea =>
    cases r2 with
    | int k =>
      simp only [opMul] at hp
      split at hp
      · rename_i ds e0
        split at hp
        · rename_i hz
          obtain ⟨xs, q, s⟩ := hr.lst p a ds e0 ea
          refine .inr (.inr (.inl ⟨a, k, xs, rfl, rfl, q, by omega, by omega, ?_, fun b nb => allocd hr (s.rep _) nb hp⟩))
          have z : xs.length * k.toNat ≤ 1000 * 1000 := Nat.mul_le_mul (by rw [← s.len]; exact hz.2.2) (by omega)
          rw [sizeLine_eq]; omega
        · exact hp.elim
      · exact hp.elim
    | _ => exact hp.elim
  | @tup ds a xs ha ra =>
    cases r2 with
    | int k =>
      simp only [opMul] at hp
      split at hp
      · rename_i hk
        subst hk
        refine .inr (.inr (.inr (.inr ⟨a, 0, xs, rfl, rfl, ha, .inr ⟨rfl, fun e => here hr hp (.tup ha ?_), fun e p np => hp L _ _ (LE.refl _) (Keep.new np) (hr.new np) (.tup (.inl (.inl upd_same)) .nil)⟩⟩)))
        subst e
        exact .nil
      · split at hp
        · rename_i hk
          subst hk
          exact .inr (.inr (.inr (.inr ⟨a, 1, xs, rfl, rfl, ha, .inl ⟨rfl, here hr hp (.tup ha ra)⟩⟩)))
        · split at hp
          · rename_i hz
            refine .inr (.inr (.inr (.inl ⟨a, k, xs, rfl, rfl, ha, fun z => hz.1 (by subst z; cases ra; rfl), hz.2.1, hz.2.2.1, by rw [← ra.len]; exact hz.2.2.2, fun p np => hp L _ _ (LE.refl _) (Keep.new np) (hr.new np) (.tup (.inl (.inl upd_same)) ((ra.rep _).mono (LE.refl _) (Keep.new np)))⟩)))
          · exact hp.elim
    | _ => exact hp.elim
  | _ => exact hp.elim
/-! methods of lists -/
theorem ext_tupW (l : Addr) (items : Array Value) (n : Nat) (b : Addr) (items2 : Array Value) (n2 : Nat) (dd : Option Addr) (sl : Array (Option Value)) (q0 : ¬(!items.isEmpty && Builtin.List.listTooLong (items.size + items2.size)) = true) (q1 : items.size ≤ sizeLine) (q2 : items.size + items2.size ≤ sizeLine + 1) :
    Meets (Builtin.«list.extend» ⟨[.ref l, .ref b], []⟩) (fun _ R s => s.heap.get? l = some { cls := .type "list", dict := none, data := .seq items n, slots := #[] } ∧ s.heap.get? b = some { cls := .type "tuple", dict := dd, data := .seq items2 n2, slots := sl } ∧
      R (.ok (.ret Value.none)) { s with heap := s.heap.update l (Obj.mapSeq fun x => x ++ items2), toks := s.toks }) := by
  refine .of_wp fun prog w A R s hh => ?_
  rcases s with ⟨hp, g, d, tk, os⟩
  rcases hh with ⟨hl, hb, h⟩
  have f1 := AutoSeq1.idx_int
  have f2 := AutoSeq1.sub_tuple_tuple
  have f3 := AutoSeq1.sub_list_list
  have f4 := AutoSeq1.sub_tuple_list
  have f5 := AutoSeq1.sub_list_tuple
  have hz' : (items ++ items2).size ≤ sizeLine + 1 := by rw [Array.size_append]; exact q2
  wp_walk using (wpAny_updateSeq hl rfl (hz := q1) (_hz' := hz')), AutoSeq1.wpAny_loadPart' hl, AutoSeq1.wpAny_loadPart' hb
  exact ⟨_, rfl, h⟩
def rExtT (K : PySem.W.Frag) : V → List V → Hp → VK → Prop := fun x vs H Q => ∃ l b xs zs, x = .ref l ∧ vs = [.ref b] ∧ H l = some (.lst xs) ∧ SqT K H b zs ∧ xs.length + zs.length ≤ sizeLine ∧ Q .non (upd H l (.lst (xs ++ zs)))
theorem mt_extT : MtR X "list.extend" (rExtT X.K) := by
  intro pins s σ H x vs v us Q I rx rv h
  obtain ⟨l, b, xs, zs, rfl, rfl, hH, hB, hz, q⟩ := h
  cases rx
  obtain ⟨u, rfl, ru⟩ := Vals.one rv
  cases ru
  obtain ⟨z, its, n, r, hl, e⟩ := I.lstM hH
  obtain ⟨its2, r2, ⟨⟨cls, dd, data, sl⟩, ho, hc, n2, hd⟩, hz2⟩ := I.tuple hB
  cases (show cls = .type "tuple" from hc)
  cases (show data = .seq its2.toArray n2 from hd)
  have l2 := r2.length
  have sz : its.toArray.size + its2.toArray.size ≤ sizeLine := by rw [List.size_toArray, List.size_toArray]; omega
  have q0 : ¬ (!its.toArray.isEmpty && Builtin.List.listTooLong (its.toArray.size + its2.toArray.size)) = true := by
    rw [notLongL sz, Bool.and_false]
    exact Bool.false_ne_true
  refine call_meets F.slot_list_extend ⟨_, e, rfl⟩ F.entry_list_extend (F.args_list_extend_2 _ _) (ext_tupW l its.toArray n b its2.toArray n2 dd sl q0 (by rw [List.size_toArray]; omega) (by omega)) ⟨e, ho, ?_⟩
  exact ⟨.non, _, I.lset (its' := its ++ its2) hH e (by simp) (r.append r2) (by rw [List.length_append]; omega), rfl, q⟩
def OkM (X : Cx) (W : WX) (g : D → List D → Hv → R D) (r : V → List V → Hp → VK → Prop) : Prop := ∀ L H h (σ : L2.St) d v ds vs Q, HR X.K L H h → Rel X.K L H d v → Rels X.K L H ds vs → pR X.K X.mg L H W σ Q (g d ds h) → r v vs H Q
theorem tyL {L : List Addr} {H : Hp} {h : Hv} {d : D} {v : V} (hr : HR X.K L H h) (r : Rel X.K L H d v) (e : isLst d h = true) : tyV X.K "list" v H := by
  cases r with
  | @ref p a ea =>
    obtain ⟨o, eo⟩ := hr.ob ea
    cases o with
    | lst ds =>
      obtain ⟨xs, q, s⟩ := hr.lst p a ds eo ea
      exact .inl ⟨rfl, xs, SqL.of q⟩
    | ro ds =>
      obtain ⟨xs, q, s⟩ := hr.ro p a ds eo ea
      exact .inl ⟨rfl, xs, q.seq⟩
  | _ => cases e
theorem r_meth {o e : Expr} {es : List Expr} {name : Str} {apos : Pos} {id : String} {g : D → List D → Hv → R D} {r : V → List V → Hp → VK → Prop} (C : Or) {fo : EF} {fs : List EF}
    (ok : OkM X W g r) (slot : Slot "list" name id) (hty : typeOf (.builtin id) = pure (.type "method_descriptor")) (hm : MtR X id r) (ho : PE X o (tE X W (fo C))) (ha : PA X (e :: es) (tA X W (listF fs C)))
    (hbase : attributeBase o name X.env (eval o X.env) = eval o X.env) (hfew : ((backTo pos (starEach (e :: es) X.env)).all (fun x => !x.1) && (backToKw pos (keywordEach [] X.env)).all (fun x => x.1.isSome)
      && decide ((e :: es).length + ([] : List Keyword).length + (if ([] : List Keyword).isEmpty then 0 else 1) < 30)) = true) (hline : (apos.endLine == pos.line) = true)
    (hs : starEach (e :: es) X.env = (false, eval e X.env) :: starEach es X.env) (hplain : (backTo pos (starEach es X.env)).any (·.1) = false) : PE X (.Call (.Attribute o name apos) (e :: es) [] pos) (tE X W (methF g fo fs C)) :=
  PE.weak (pe_bm PySem.F.plainAttrs_list slot hty hm ho ha hbase hfew hline hs hplain) fun σ H Q ⟨L, h, env, hr, sr, hp⟩ => ⟨L, h, env, hr, sr, pRg.then_ hp fun d h1 L1 H1 v le kp hr1 r1 hp1 => by
    split at hp1
    · rename_i il
      exact ⟨tyL hr1 r1 il, L1, h1, env, hr1, sr.mono le kp, pRg.then_ hp1 fun ds h2 L2 H2 vs le2 kp2 hr2 r2 hp2 => ok L2 H2 h2 σ d v ds vs Q hr2 (r1.mono le2 kp2) r2 hp2⟩
    · exact hp1.elim⟩
theorem r_meth0 {o : Expr} {name : Str} {apos : Pos} {id : String} {g : D → List D → Hv → R D} {r : V → List V → Hp → VK → Prop} (C : Or) {fo : EF}
    (ok : OkM X W g r) (slot : Slot "list" name id) (hty : typeOf (.builtin id) = pure (.type "method_descriptor")) (hm : MtR X id r) (ho : PE X o (tE X W (fo C)))
    (hbase : attributeBase o name X.env (eval o X.env) = eval o X.env) (hline : (apos.endLine == pos.line) = true) : PE X (.Call (.Attribute o name apos) [] [] pos) (tE X W (methF g fo [] C)) :=
  PE.weak (pe_bm0 PySem.F.plainAttrs_list slot hty hm ho hbase hline) fun σ H Q ⟨L, h, env, hr, sr, hp⟩ => ⟨L, h, env, hr, sr, pRg.then_ hp fun d h1 L1 H1 v le kp hr1 r1 hp1 => by
    split at hp1
    · rename_i il
      exact ⟨tyL hr1 r1 il, ok L1 H1 h1 σ d v [] [] Q hr1 r1 .nil hp1⟩
    · exact hp1.elim⟩
theorem m_append : OkM X W mAppend rAppend := by
  intro L H h σ d v ds vs Q hr r rs hp
  unfold mAppend at hp
  split at hp
  · rename_i p d
    split at hp
    · rename_i ds e0
      split at hp
      · rename_i hz
        cases r with
        | @ref _ a ea =>
          obtain ⟨u, rfl, ru⟩ := one_of rs
          obtain ⟨xs, q, s⟩ := hr.lst p a ds e0 ea
          exact ⟨a, xs, u, rfl, rfl, q, Nat.lt_of_lt_of_le (by rw [← s.len]; exact hz) szl_le, hp L _ _ (LE.refl _) (Keep.setL q) (hr.set e0 ea (s.app (.cons ru .nil))) .non⟩
      · exact hp.elim
    · exact hp.elim
  · exact hp.elim
theorem m_pop : OkM X W mPop rPopAt := by
  intro L H h σ d v ds vs Q hr r rs hp
  unfold mPop at hp
  split at hp
  · rename_i p i
    split at hp
    · rename_i ds e0
      split at hp
      · rename_i hz
        split at hp
        · rename_i d hd
          cases r with
          | @ref _ a ea =>
            obtain ⟨u, rfl, ru⟩ := one_of rs
            cases ru
            obtain ⟨xs, q, s⟩ := hr.lst p a ds e0 ea
            obtain ⟨y, hy, ry⟩ := s.get hd
            have hlt := (List.getElem?_eq_some_iff.1 hy).1
            refine ⟨a, xs, i, i.toNat, y, rfl, rfl, q, by omega, by omega, ?_, hy, hp L _ _ (LE.refl _) (Keep.setL q) (hr.set e0 ea (s.erase _)) (ry.mono (LE.refl _) (Keep.setL q))⟩
            unfold seqIndex?
            simp only []
            rw [if_neg (show ¬ i < 0 by omega)]
            have hb : (decide (0 ≤ i) && decide (i < (xs.length : Int))) = true := by
              rw [Bool.and_eq_true, decide_eq_true_eq, decide_eq_true_eq]
              omega
            rw [if_pos hb]
        · exact hp.elim
      · exact hp.elim
    · exact hp.elim
  · exact hp.elim
theorem r_lrg {p p2 pos pos2 : Pos} {a : Expr} (C : Or) {fa : EF} (hc : X.calm = true) (hg : Gl X "list") (hm : X.mg "list" = none) (hg2 : Gl X "range") (hm2 : X.mg "range" = none) (ha : PE X a (tE X W (fa C))) (na : starEach [a] X.env = (false, eval a X.env) :: starEach [] X.env) :
    PE X (.Call (.Name "list" p) [.Call (.Name "range" p2) [a] [] pos2] [] pos) (tE X W (lrF fa C)) :=
  PE.weak (pe_listRg hc hg hm (prg_1 hg2 hm2 ha na)) fun σ H Q ⟨L, h, env, hr, sr, hp⟩ => ⟨L, h, env, hr, sr, hp.then_ fun d h1 L1 H1 v le kp hr1 r1 hp1 => by
    cases r1 <;> try exact hp1.elim
    rename_i j
    simp only at hp1
    split at hp1
    · rename_i hz
      refine ⟨j, rfl, RgOk.of_le (by omega) (by omega) (by omega) (by omega), fun q np => allocd hr1 ?_ np hp1⟩
      unfold rng rgV
      rw [Int.sub_zero]
      exact Rels.ints (fun i => 0 + (i : Nat)) _
    · exact hp1.elim⟩
theorem m_reverse : OkM X W mReverse rReverse := by
  intro L H h σ d v ds vs Q hr r rs hp
  unfold mReverse at hp
  split at hp
  · rename_i p
    split at hp
    · rename_i ds e0
      cases r with
      | @ref _ a ea =>
        cases rs
        obtain ⟨xs, q, s⟩ := hr.lst p a ds e0 ea
        exact ⟨a, xs, rfl, rfl, q, hp L _ _ (LE.refl _) (Keep.setL q) (hr.set e0 ea s.rev) .non⟩
    · exact hp.elim
  · exact hp.elim
theorem m_clear : OkM X W mClear rClear := by
  intro L H h σ d v ds vs Q hr r rs hp
  unfold mClear at hp
  split at hp
  · rename_i p
    split at hp
    · rename_i ds e0
      cases r with
      | @ref _ a ea =>
        cases rs
        obtain ⟨xs, q, s⟩ := hr.lst p a ds e0 ea
        exact ⟨a, xs, rfl, rfl, q, hp L _ _ (LE.refl _) (Keep.setL q) (hr.set e0 ea .nil) .non⟩
    · exact hp.elim
  · exact hp.elim
def rExtA (K : PySem.W.Frag) : V → List V → Hp → VK → Prop := fun x vs H Q => rExtend x vs H Q ∨ rExtT K x vs H Q
theorem mt_extA : MtR X "list.extend" (rExtA X.K) := MtR.or mt_extend mt_extT
theorem m_extend : OkM X W mExtend (rExtA X.K) := by
  intro L H h σ d v ds vs Q hr r rs hp
  unfold mExtend at hp
  split at hp
  · rename_i p es
    split at hp
    · rename_i ds e0
      split at hp
      · rename_i hz
        cases r with
        | @ref _ a ea =>
          obtain ⟨u, rfl, ru⟩ := one_of rs
          cases ru with
          | @tup _ b ys hb rb =>
            obtain ⟨xs, q, s⟩ := hr.lst p a ds e0 ea
            exact .inr ⟨a, b, xs, ys, rfl, rfl, q, hb, Nat.le_trans (by rw [← s.len, ← rb.len]; exact hz) szl_le, hp L _ _ (LE.refl _) (Keep.setL q) (hr.set e0 ea (s.app rb)) .non⟩
      · exact hp.elim
    · exact hp.elim
  · rename_i p q'
    split at hp
    · rename_i ds es e0 e1
      split at hp
      · rename_i hz
        cases r with
        | @ref _ a ea =>
          obtain ⟨u, rfl, ru⟩ := one_of rs
          cases ru with
          | @ref _ b eb =>
            obtain ⟨xs, q, s⟩ := hr.lst p a ds e0 ea
            obtain ⟨ys, qb, sb⟩ := hr.lst _ b es e1 eb
            exact .inl ⟨a, b, xs, ys, rfl, rfl, q, qb, Nat.le_trans (by rw [← s.len, ← sb.len]; exact hz) szl_le, hp L _ _ (LE.refl _) (Keep.setL q) (hr.set e0 ea (s.app sb)) .non⟩
      · exact hp.elim
    · exact hp.elim
  · exact hp.elim
end
end VM

set_option maxRecDepth 100000
set_option maxHeartbeats 4000000
namespace VM
open PySem PySem.Spec PyProof.Rows L2
/-! from a text to ours -/
inductive GV where
  | con (d : D) | fn (np : Nat) | blt
structure CC where
  N : List Str
  sc : Scope
  fn : Str → Bool
  gl : Str → Option GV
def okNm (x : Str) : Bool := !(x == ("__debug__" : Str)) && (!(x == ("__classdict__" : Str)) && !decide (x = "__name__"))
def isVis (sc : Scope) (x : Str) : Bool := match sc.names.lookup x with
  | some .local => true | some .cell => true | some .free => true
  | _ => false
def isGlo (sc : Scope) (x : Str) : Bool := match sc.names.lookup x with
  | some .globalImplicit => true
  | _ => false
def isBlt (cc : CC) (x : Str) : Bool := isGlo cc.sc x && (okNm x && match cc.gl x with
  | some .blt => true
  | _ => false)
def slot (cc : CC) (x : Str) : Option Nat := match cc.N.idxOf? x with
  | some i => if cc.N[i]? = some x then some i else none
  | none => none
def guardO {α : Type} (b : Bool) (x : Option α) : Option α := if b = true then x else none
def opTab : Operator → Option (D → D → Hv → R D)
  | .Add => some opAdd | .Sub => some opSub | .Mult => some opMul | .FloorDiv => some opFdiv | .Mod => some opMod | .Pow => some opPow
  | _ => none
def cmpTab : CmpOp → Option (D → D → Hv → R D)
  | .Lt => some opLt | .LtE => some opLe | .Gt => some opGt | .GtE => some opGe | .Eq => some (opEqD false) | .NotEq => some (opEqD true)
  | .Is => some (opIs false) | .IsNot => some (opIs true) | .In => some (opIn false) | .NotIn => some (opIn true)
def compL (f : Expr → Option EF) : List Expr → Option (List EF)
  | [] => some []
  | e :: es => (f e).bind fun a => (compL f es).bind fun as => some (a :: as)
def andL : List EF → Option EF
  | [] => none
  | [f] => some f
  | f :: g :: r => (andL (g :: r)).map (andF f)
def orL : List EF → Option EF
  | [] => none
  | [f] => some f
  | f :: g :: r => (orL (g :: r)).map (orF f)
def notSl : Expr → Bool
  | .Slice _ _ _ _ => false
  | _ => true
def notCall : Expr → Bool
  | .Call _ _ _ _ => false
  | _ => true
def isTupE : Expr → Bool
  | .Tuple _ _ _ => true
  | _ => false
def tyTab (x : Str) : Option String :=
  if x = "int" then some "int" else if x = "tuple" then some "tuple" else if x = "bool" then some "bool" else if x = "str" then some "str" else if x = "list" then some "list" else none
def bltTab (x : Str) : Option (List D → Hv → R D) :=
  if x = "len" then some bLen else if x = "tuple" then some bTuple else if x = "int" then some bInt else if x = "sum" then some bSum else if x = "abs" then some bAbs else if x = "list" then some bList
  else if x = "max" then some bMax else if x = "min" then some bMin else if x = "all" then some bAll else if x = "any" then some bAny else none
def mthTab (x : Str) : Option (D → List D → Hv → R D) := if x = "append" then some mAppend else if x = "extend" then some mExtend else if x = "pop" then some mPop else none
def mthTab0 (x : Str) : Option (D → List D → Hv → R D) := if x = "reverse" then some mReverse else if x = "clear" then some mClear else none
def compTs (f : Expr → Option (TF × List Nat)) : List Expr → Option (List TF × List Nat)
  | [] => some ([], [])
  | e :: es => (f e).bind fun a => (compTs f es).bind fun as => some (a.1 :: as.1, a.2 ++ as.2)
/-- a target: what it does, the slots that it stores -/
def compT : Nat → CC → Expr → Option (TF × List Nat)
  | n + 1, cc, e => (match e with
    | .Name x _ => (slot cc x).bind fun i => guardO (match cc.sc.names.lookup x with
      | some .local => true
      | some .cell => cc.fn x
      | _ => false) (some (nmT i, [i]))
    | .Tuple es _ _ => (compTs (compT n cc) es).map fun z => (tupT z.1, z.2)
    | _ => none)
  | 0, _, _ => none
/-- a block's own names, by their slots -/
def ownOf (cc : CC) (scope : Scope) : List (Str × Nat) := scope.names.filterMap fun y => match y.2 with
  | .local => (slot cc y.1).map fun i => (y.1, i)
  | .cell => (slot cc y.1).map fun i => (y.1, i)
  | _ => none
def blkCC (cc : CC) (scope : Scope) : CC := { cc with sc := relS scope cc.sc, fn := fun x => scope.names.lookup x == some .cell }
/-- where isTrue does what the value does -/
def testable : Nat → Expr → Bool
  | n + 1, e => (match e with
    | .UnaryOp .Not a _ => testable n a
    | .BoolOp _ es _ => es.all (testable n)
    | .IfExp _ _ _ _ => false
    | _ => true)
  | 0, _ => false
def compI (f : Expr → Option EF) (cc : CC) (tg iter : Expr) : Option IF := match iter with
  | .Call (.Name x _) [a] [] _ => if isBlt cc x = true ∧ x = "range" then (f a).map it1F else if isBlt cc x = true ∧ x = "enumerate" ∧ isTupE tg = true then (f a).map itN else (f iter).map itE
  | .Call (.Name x _) [a, b] [] _ => if isBlt cc x = true ∧ x = "range" then (f a).bind fun fa => (f b).map (it2F fa) else if isBlt cc x = true ∧ x = "zip" ∧ isTupE tg = true then (f a).bind fun fa => (f b).map (itZ fa) else (f iter).map itE
  | _ => (f iter).map itE
def compOpt (f : Expr → Option EF) : Option Expr → Option (Option EF)
  | none => some none
  | some e => (f e).map some
def compLc (f : CC → Expr → Option EF) (tb : Expr → Bool) (n : Nat) (cc : CC) (elt tg iter : Expr) (ifs : List Expr) (scope : Scope) : Option EF :=
  guardO (blkC cc.N cc.sc scope (ownOf cc scope)) ((compI (f cc) cc tg iter).bind fun fi => (compT n (blkCC cc scope) tg).bind fun t =>
    guardO (t.2.all fun j => ((ownOf cc scope).map fun (q : Str × Nat) => q.2).contains j) ((match ifs with
      | [] => some (conF (.bl true))
      | [c] => guardO (tb c) (f (blkCC cc scope) c)
      | _ => none).bind fun ft => (f (blkCC cc scope) elt).map fun fe => lcF fi t.1 ((ownOf cc scope).map fun (q : Str × Nat) => q.2) ft fe))
/-- what list(range(..)) goes to -/
def lrgA (cc : CC) (x : Str) (a : Expr) (as : List Expr) : Option Expr := if x = "list" then (match a, as with
  | .Call (.Name y _) [c] [] _, [] => if isBlt cc y = true ∧ y = "range" then some c else none
  | _, _ => none) else none
def compE : Nat → CC → Expr → Option EF
  | n + 1, cc, e => (match e with
    | .Name x _ => guardO (okNm x) (if isVis cc.sc x = true then (slot cc x).map varF else guardO (isGlo cc.sc x) (match cc.gl x with
      | some (.con d) => some (conF d)
      | _ => none))
    | .Constant (.int i) _ _ => some (conF (.int i))
    | .Constant (.str i) _ _ => some (conF (.str i))
    | .Constant (.bool i) _ _ => some (conF (.bl i))
    | .Constant .none _ _ => some (conF .non)
    | .BinOp a op b _ => (compE n cc a).bind fun fa => (compE n cc b).bind fun fb => (opTab op).map fun g => binF g fa fb
    | .UnaryOp .Not a _ => (compE n cc a).map (un1F opNot)
    | .UnaryOp .USub a _ => (compE n cc a).map (un1F opNeg)
    | .Compare a [op] [b] _ => (compE n cc a).bind fun fa => (compE n cc b).bind fun fb => (cmpTab op).map fun g => binF g fa fb
    | .Compare a [op, op'] [b, c] _ => (compE n cc a).bind fun fa => (compE n cc b).bind fun fb => (compE n cc c).bind fun fc => (cmpTab op).bind fun g => (cmpTab op').map fun g' => chainF g g' fa fb fc
    | .BoolOp .And es _ => (compL (compE n cc) es).bind andL
    | .BoolOp .Or es _ => (compL (compE n cc) es).bind orL
    | .IfExp c a b _ => guardO (testable n c) ((compE n cc c).bind fun fc => (compE n cc a).bind fun fa => (compE n cc b).map fun fb => iteF fc fa fb)
    | .Tuple es _ _ => (compL (compE n cc) es).map tupF
    | .List es _ => (compL (compE n cc) es).map lstF
    | .Subscript a (.Slice lo hi none _) _ => (compE n cc a).bind fun fa => (compOpt (compE n cc) lo).bind fun fl => (compOpt (compE n cc) hi).map fun fh => slcF opSl fa fl fh
    | .Subscript a b _ => guardO (notSl b) ((compE n cc a).bind fun fa => (compE n cc b).map fun fb => binF opIx fa fb)
    | .ListComp elt [⟨tg, iter, ifs, 0⟩] scope _ => compLc (compE n) (testable n) n cc elt tg iter ifs scope
    | .Call (.Name x _) (a :: as) [] _ => guardO (isGlo cc.sc x && okNm x) (match cc.gl x with
      | some (.fn _) => (compL (compE n cc) (a :: as)).map (callF x)
      | some .blt => if x = "isinstance" then (match as with
          | [.Name T _] => guardO (isBlt cc T) ((tyTab T).bind fun ty => (compE n cc a).map (un1F (isiF ty)))
          | _ => none) else (match lrgA cc x a as with
          | some c => (compE n cc c).map lrF
          | none => (bltTab x).bind fun g => (compL (compE n cc) (a :: as)).map (bltF g))
      | _ => none)
    | .Call (.Attribute o name apos) (a :: as) [] pos => guardO (notCall o && (decide ((a :: as).length < 20) && (apos.endLine == pos.line))) ((mthTab name).bind fun g => (compE n cc o).bind fun fo => (compL (compE n cc) (a :: as)).map (methF g fo))
    | .Call (.Attribute o name apos) [] [] pos => guardO (notCall o && (apos.endLine == pos.line)) ((mthTab0 name).bind fun g => (compE n cc o).map fun fo => methF g fo [])
    | _ => none)
  | 0, _, _ => none
/-! statements -/
def nmLoc (cc : CC) (x : Str) : Bool := match cc.sc.names.lookup x with
  | some .local => true
  | _ => false
def isLc : Expr → Bool
  | .ListComp _ _ _ _ => true | .SetComp _ _ _ _ => true | .DictComp _ _ _ _ _ => true
  | _ => false
def stkS : SF := fun _ _ _ => .stuck
def compSs (f : Stmt → Option SF) : List Stmt → Option SF
  | [] => some nxS
  | s :: ss => (f s).bind fun a => (compSs f ss).map (seqS a)
/-- a = [..]: one name -/
def compSet (n : Nat) (cc : CC) (x : Str) (px : Pos) (e : Expr) (pos : Pos) : Option SF :=
  (slot cc x).bind fun i => guardO (nmLoc cc x || (match cc.sc.names.lookup x with
    | some .cell => cc.fn x
    | _ => false)) ((compE n cc e).bind fun f => match e with
      | .ListComp _ _ scope lpos => if nmLoc cc x = true then guardO ((px.line == lpos.line) && !(scope.names.any fun (n, k) => n == x && (k == .local || k == .cell))) (some (asgS (nmT i) f)) else some (asgS (nmT i) f)
      | _ => some (asgS (nmT i) f))
def compS : Nat → CC → Stmt → Option SF
  | n + 1, cc, s => (match s with
    | .Pass _ => some nxS
    | .Break _ => some bkS
    | .Continue _ => some ctS
    | .Raise _ _ _ => some stkS
    | .Return none _ => some retN
    | .Return (some e) _ => (compE n cc e).map retS
    | .Expr e _ => guardO (!isLc e) ((compE n cc e).map expS)
    | .If c a b _ => guardO (testable n c) ((compE n cc c).bind fun fc => (compSs (compS n cc) a).bind fun fa => (compSs (compS n cc) b).map fun fb => ifS fc fa fb)
    | .While c a [] _ => guardO (testable n c) ((compE n cc c).bind fun fc => (compSs (compS n cc) a).map fun fa => whileS fc fa)
    | .For tg iter a [] _ => (compI (compE n cc) cc tg iter).bind fun fi => (compT n cc tg).bind fun t => (compSs (compS n cc) a).map fun fa => forS fi t.1 fa
    | .Assign [.Name x px] e pos => compSet n cc x px e pos
    | .Assign [.Subscript o i _] e _ => guardO (notSl i) ((compE n cc o).bind fun fo => (compE n cc i).bind fun fi => (compE n cc e).map fun f => setS fo fi f)
    | .Assign [.Tuple [.Name x px, .Name y py] _ _] (.Tuple [a, b] _ _) _ =>
      if nmLoc cc x = true ∧ nmLoc cc y = true then
        guardO ((px.line == py.line) && (decide (x ≠ y) && (!([a, b].all (foldedForSure 8)) && !([a, b].all (constantsAlone 8))))) ((slot cc x).bind fun i => (slot cc y).bind fun j => guardO (decide (i ≠ j)) ((compE n cc a).bind fun fa => (compE n cc b).map fun fb => parS i j fa fb))
      else (compT n cc (.Tuple [.Name x px, .Name y py] 0 px)).bind fun t => (compE n cc (.Tuple [a, b] 0 px)).map fun f => asgS t.1 f
    | .Assign [.Tuple es _ _] e _ => guardO (!isTupE e) ((compT n cc (.Tuple es 0 e.pos)).bind fun t => (compE n cc e).map fun f => asgS t.1 f)
    | _ => none)
  | 0, _, _ => none
/-- a def -/
def compFn (n : Nat) (gl : Str → Option GV) (N : List Str) (st : Stmt) : Option SF :=
  compSs (compS n { N := N, sc := defScope st, fn := fun _ => true, gl := gl }) (defBody st)
end VM

set_option maxRecDepth 100000
set_option maxHeartbeats 4000000
namespace VM
open PySem PySem.Spec PyProof.Rows L2
/-! what the text's names are there -/
def GOk (X : Cx) (C : Or) (x : Str) : GV → Prop
  | .con d => ∃ u v, X.mg x = some u ∧ RelV v u ∧ ∀ L H, Rel X.K L H d v
  | .fn np => ∃ k f fd ps, ps.length = np ∧ FnOk X.prog X.w X.K X.mg X.base (L2.CX X.prog X.w) k f fd ps (spOf X.K X.mg ps.length (C x)) ∧ (∀ ds h, ds.length ≠ ps.length → C x ds h = .stuck) ∧ Room k X.A ∧
      X.mg x = some (.ref f) ∧ PySem.W.keepIn X.K (.ref f) = true ∧ Binds X.K fd ps []
  | .blt => X.mg x = none
structure Sd (X : Cx) (W : WX) (C : Or) (cc : CC) : Prop where
  N : X.N = cc.N
  nd : X.N.Nodup
  sc : X.env.scope = cc.sc
  fn : X.fn = cc.fn
  calm : X.calm = true
  tk : Takes X W
  un : X.A.units + 64 < cLine
  gl : ∀ x g, cc.gl x = some g → GOk X C x g
theorem guardO_some {α : Type} {b : Bool} {x : Option α} {y : α} (h : guardO b x = some y) : b = true ∧ x = some y := by
  unfold guardO at h
  split at h
  · rename_i z; exact ⟨z, h⟩
  · cases h
theorem bind_some {α β : Type} {x : Option α} {f : α → Option β} {y : β} (h : x.bind f = some y) : ∃ a, x = some a ∧ f a = some y := Option.bind_eq_some_iff.mp h
theorem map_some {α β : Type} {x : Option α} {f : α → β} {y : β} (h : x.map f = some y) : ∃ a, x = some a ∧ f a = y := Option.map_eq_some_iff.mp h
theorem and2 {a b : Bool} (h : (a && b) = true) : a = true ∧ b = true := Bool.and_eq_true_iff.mp h
theorem okNm_ok {x : Str} (h : okNm x = true) : (x == ("__debug__" : Str)) = false ∧ (x == ("__classdict__" : Str)) = false ∧ x ≠ "__name__" := by
  unfold okNm at h
  obtain ⟨h1, h⟩ := and2 h
  obtain ⟨h2, h3⟩ := and2 h
  refine ⟨by simpa using h1, by simpa using h2, ?_⟩
  intro z
  rw [decide_eq_true z] at h3
  cases h3
theorem vis_ok {sc : Scope} {x : Str} (h : isVis sc x = true) : Vis sc x := by
  unfold isVis at h
  split at h
  · exact .inl (by assumption)
  · exact .inr (.inl (by assumption))
  · exact .inr (.inr (by assumption))
  · cases h
theorem glo_ok {X : Cx} {sc : Scope} {x : Str} (e : X.env.scope = sc) (h : isGlo sc x = true) : Gl X x := by
  unfold isGlo at h
  split at h
  · rename_i z
    show X.env.scope.names.lookup x = some .globalImplicit
    rw [e]; exact z
  · cases h
theorem slot_ok {cc : CC} {x : Str} {i : Nat} (h : slot cc x = some i) : cc.N[i]? = some x := by
  unfold slot at h
  split at h
  · split at h
    · rename_i z
      cases h
      exact z
    · cases h
  · cases h
theorem blt_ok {X : Cx} {W : WX} {C : Or} {cc : CC} (S : Sd X W C cc) {x : Str} (h : isBlt cc x = true) : Gl X x ∧ X.mg x = none ∧ (x == ("__debug__" : Str)) = false ∧ x ≠ "__name__" := by
  unfold isBlt at h
  obtain ⟨h1, h⟩ := and2 h
  obtain ⟨h2, h3⟩ := and2 h
  obtain ⟨d1, d2, d3⟩ := okNm_ok h2
  split at h3
  · rename_i z
    exact ⟨glo_ok S.sc h1, S.gl x _ z, d1, d3⟩
  · cases h3
theorem noStar {n : Nat} {cc : CC} {e : Expr} {F : EF} (h : compE n cc e = some F) (env : PySem.Env) (es : List Expr) : starEach (e :: es) env = (false, eval e env) :: starEach es env := by
  cases n with
  | zero => cases h
  | succ n =>
    cases e <;> first
      | rfl
      | cases h
theorem noStars {n : Nat} {cc : CC} : ∀ {es : List Expr} {Fs : List EF}, compL (compE n cc) es = some Fs → ∀ (pos : Pos) (env : PySem.Env), (backTo pos (starEach es env)).any (·.1) = false ∧ (backTo pos (starEach es env)).all (fun x => !x.1) = true
  | [], _, _, pos, env => ⟨rfl, rfl⟩
  | e :: es, Fs, h, pos, env => by
    obtain ⟨a, h1, h⟩ := bind_some h
    obtain ⟨as, h2, h⟩ := bind_some h
    obtain ⟨i1, i2⟩ := noStars h2 pos env
    rw [noStar h1]
    unfold backTo at i1 i2 ⊢
    rw [List.map_cons, List.any_cons, List.all_cons, i1, i2]
    exact ⟨rfl, rfl⟩
/-- no set display -/
theorem notSet {n : Nat} {cc : CC} {e : Expr} {F : EF} (h : compE n cc e = some F) : (∀ (op : CmpOp), behindInMarks op e = false) ∧ ∀ (env : PySem.Env) x, foldedSetIterable e env x = pure x := by
  cases n with
  | zero => cases h
  | succ n =>
    cases e <;> first
      | exact ⟨fun _ => rfl, fun _ _ => rfl⟩
      | cases h
section
variable {X : Cx} {W : WX} {C : Or} {cc : CC}
theorem optab_ok : ∀ {op : Operator} {g : D → D → Hv → R D}, opTab op = some g → ∃ r, OkR X W g r ∧ OpR X (binaryOp op) r
  | .Add, _, h => by cases h; exact ⟨_, o_add, op_addA⟩
  | .Sub, _, h => by cases h; exact ⟨_, o_sub, op_sub⟩
  | .Mult, _, h => by cases h; exact ⟨_, o_mul, op_mulA⟩
  | .FloorDiv, _, h => by cases h; exact ⟨_, o_fdiv, op_fdivW⟩
  | .Mod, _, h => by cases h; exact ⟨_, o_mod, op_mod⟩
  | .Pow, _, h => by cases h; exact ⟨_, o_pow, op_pow⟩
  | .MatMult, _, h => by cases h
  | .Div, _, h => by cases h
  | .LShift, _, h => by cases h
  | .RShift, _, h => by cases h
  | .BitOr, _, h => by cases h
  | .BitXor, _, h => by cases h
  | .BitAnd, _, h => by cases h
theorem cmptab_ok (S : Sd X W C cc) : ∀ {op : CmpOp} {g : D → D → Hv → R D}, cmpTab op = some g → ∃ r, OkR X W g r ∧ OpR X (compareOp op) r
  | .Lt, _, h => by cases h; exact ⟨_, o_cmpI _, op_lt⟩
  | .LtE, _, h => by cases h; exact ⟨_, o_cmpI _, op_le⟩
  | .Gt, _, h => by cases h; exact ⟨_, o_cmpI _, op_gt⟩
  | .GtE, _, h => by cases h; exact ⟨_, o_cmpI _, op_ge⟩
  | .Eq, _, h => by cases h; exact ⟨_, o_eq, op_eqD S.un⟩
  | .NotEq, _, h => by cases h; exact ⟨_, o_ne, op_neD S.un⟩
  | .Is, _, h => by cases h; exact ⟨_, o_is, op_is2⟩
  | .IsNot, _, h => by cases h; exact ⟨_, o_isnot, op_isnot2⟩
  | .In, _, h => by cases h; exact ⟨_, o_in false, op_in_seq⟩
  | .NotIn, _, h => by cases h; exact ⟨_, o_in true, op_notIn_seq⟩
theorem tyTab_ok {x : Str} {T : String} (h : tyTab x = some T) : bootBuiltins x = some (.type T) ∧ T ∈ ["bool", "int", "str", "tuple", "list", "dict"] := by
  unfold tyTab at h
  split at h
  · rename_i e; subst e; cases h; exact ⟨boot_int, by decide⟩
  split at h
  · rename_i e; subst e; cases h; exact ⟨boot_tuple, by decide⟩
  split at h
  · rename_i e; subst e; cases h; exact ⟨boot_bool, by decide⟩
  split at h
  · rename_i e; subst e; cases h; exact ⟨boot_str, by decide⟩
  split at h
  · rename_i e; subst e; cases h; exact ⟨boot_list, by decide⟩
  · cases h
theorem bltTab_ok (S : Sd X W C cc) {x : Str} {g : List D → Hv → R D} (h : bltTab x = some g) : ∃ r, OkC X W g r ∧ ((∃ id, CallR X (.builtin id) r ∧ bootBuiltins x = some (.builtin id)) ∨ ∃ T, CallR X (.type T) r ∧ bootBuiltins x = some (.type T)) := by
  unfold bltTab at h
  split at h
  · rename_i e; subst e; cases h; exact ⟨_, o_len, .inl ⟨_, c_len, boot_len⟩⟩
  split at h
  · rename_i e; subst e; cases h; exact ⟨_, o_tuple, .inr ⟨_, call_tuple_of, boot_tuple⟩⟩
  split at h
  · rename_i e; subst e; cases h; exact ⟨_, o_int, .inr ⟨_, call_int1, boot_int⟩⟩
  split at h
  · rename_i e; subst e; cases h; exact ⟨_, o_sum, .inl ⟨_, cr_sum S.calm, boot_sum⟩⟩
  split at h
  · rename_i e; subst e; cases h; exact ⟨_, o_abs, .inl ⟨_, call_abs, boot_abs⟩⟩
  split at h
  · rename_i e; subst e; cases h; exact ⟨_, o_list, .inr ⟨_, call_list_of, boot_list⟩⟩
  split at h
  · rename_i e; subst e; cases h; exact ⟨_, o_max, .inl ⟨_, call_max2 S.calm, boot_max⟩⟩
  split at h
  · rename_i e; subst e; cases h; exact ⟨_, o_min, .inl ⟨_, call_min2 S.calm, boot_min⟩⟩
  split at h
  · rename_i e; subst e; cases h; exact ⟨_, o_all, .inl ⟨_, cr_all S.calm, boot_all⟩⟩
  split at h
  · rename_i e; subst e; cases h; exact ⟨_, o_any, .inl ⟨_, cr_any S.calm, boot_any⟩⟩
  · cases h
theorem mthTab_ok {x : Str} {g : D → List D → Hv → R D} (h : mthTab x = some g) : ∃ r id, OkM X W g r ∧ Slot "list" x id ∧ typeOf (.builtin id) = pure (.type "method_descriptor") ∧ MtR X id r := by
  unfold mthTab at h
  split at h
  · rename_i e; subst e; cases h; exact ⟨_, _, m_append, PySem.F.slot_list_append, PySem.F.type_list_append, mt_append⟩
  split at h
  · rename_i e; subst e; cases h; exact ⟨_, _, m_extend, PySem.F.slot_list_extend, PySem.F.type_list_extend, mt_extA⟩
  split at h
  · rename_i e; subst e; cases h; exact ⟨_, _, m_pop, PySem.F.slot_list_pop, PySem.F.type_list_pop, mt_popAt⟩
  · cases h
theorem mthTab0_ok {x : Str} {g : D → List D → Hv → R D} (h : mthTab0 x = some g) : ∃ r id, OkM X W g r ∧ Slot "list" x id ∧ typeOf (.builtin id) = pure (.type "method_descriptor") ∧ MtR X id r := by
  unfold mthTab0 at h
  split at h
  · rename_i e; subst e; cases h; exact ⟨_, _, m_reverse, PySem.F.slot_list_reverse, PySem.F.type_list_reverse, mt_reverse⟩
  split at h
  · rename_i e; subst e; cases h; exact ⟨_, _, m_clear, PySem.F.slot_list_clear, PySem.F.type_list_clear, mt_clear⟩
  · cases h
/-! targets -/
theorem compT_ok (S : Sd X W C cc) : ∀ (n : Nat) (e : Expr) (t : TF × List Nat), compT n cc e = some t → PG X e (tG X.K t.2 t.1)
  | 0, _, _, h => by cases h
  | n + 1, e, t, h => by
    have ih := compT_ok S n
    have ls : ∀ (es : List Expr) (t : List TF × List Nat), compTs (compT n cc) es = some t → PGs X es (tGs X.K t.2 t.1) ∧ (assignEach es X.env).length = t.1.length ∧ (assignEach es X.env).findIdx? (·.1) = none := by
      intro es
      induction es with
      | nil => intro t h; cases h; exact ⟨gs_nil, rfl, rfl⟩
      | cons e es il =>
        intro t h
        obtain ⟨a, h1, h⟩ := bind_some h
        obtain ⟨as, h2, h⟩ := bind_some h
        cases h
        obtain ⟨p1, p2, p3⟩ := il as h2
        have ae : assignEach (e :: es) X.env = (false, assign e X.env) :: assignEach es X.env := by
          cases n with
          | zero => cases h1
          | succ n => cases e <;> first | rfl | cases h1
        refine ⟨gs_cons (ih e a h1) p1 (by rw [ae]; rfl), by rw [ae]; simp [p2], by rw [ae, List.findIdx?_cons, p3]; rfl⟩
    cases e with
    | Name x pos =>
      obtain ⟨i, h1, h⟩ := bind_some h
      obtain ⟨h2, h⟩ := guardO_some h
      cases h
      refine g_name S.nd (by rw [S.N]; exact slot_ok h1) ?_ ?_
      · split at h2
        · rename_i z; exact .inl (by rw [S.sc]; exact z)
        · rename_i z; exact .inr (by rw [S.sc]; exact z)
        · cases h2
      · split at h2
        · rename_i z; exact .inr (by rw [S.sc]; exact z)
        · rename_i z; exact .inl (by rw [S.fn]; exact h2)
        · cases h2
    | Tuple es k pos =>
      obtain ⟨z, h1, h⟩ := map_some h
      cases h
      obtain ⟨p1, p2, p3⟩ := ls es z h1
      exact g_tup S.calm p1 p2 p3
    | _ => cases h
/-! expressions -/
abbrev SE (n : Nat) : Prop := ∀ (cc : CC) (e : Expr) (F : EF), compE n cc e = some F → ∀ (X : Cx) (W : WX) (C : Or), Sd X W C cc → PE X e (tE X W (F C)) ∧ ∀ m, testable m e = true → PT X e (tB X W (F C))
theorem compL_ok {n : Nat} (ih : SE n) (S : Sd X W C cc) : ∀ (es : List Expr) (Fs : List EF), compL (compE n cc) es = some Fs → PA X es (tA X W (listF Fs C))
  | [], _, h => by cases h; exact a_nil C
  | e :: es, _, h => by
    obtain ⟨a, h1, h⟩ := bind_some h
    obtain ⟨as, h2, h⟩ := bind_some h
    cases h
    exact a_cons C (ih cc e a h1 X W C S).1 (compL_ok ih S es as h2) (noStar h1 _ _)
theorem andL_ok {n : Nat} (ih : SE n) (S : Sd X W C cc) {pos : Pos} : ∀ (es : List Expr) (Fs : List EF) (F : EF), compL (compE n cc) es = some Fs → andL Fs = some F → PE X (.BoolOp .And es pos) (tE X W (F C)) ∧ ∀ m, es.all (testable m) = true → PW X (.BoolOp .And es pos) (tB X W (F C))
  | [], _, _, h, q => by cases h; cases q
  | [e], _, _, h, q => by
    obtain ⟨a, h1, h⟩ := bind_some h
    cases h
    cases q
    obtain ⟨p1, p2⟩ := ih cc e _ h1 X W C S
    exact ⟨r_one p1, fun m t => t_and1 (p2 m (by simpa using t))⟩
  | e :: e2 :: es, _, _, h, q => by
    obtain ⟨a, h1, h⟩ := bind_some h
    obtain ⟨as, h2, h⟩ := bind_some h
    cases h
    obtain ⟨b, h3, h4⟩ := bind_some h2
    obtain ⟨bs, h5, h6⟩ := bind_some h4
    cases h6
    obtain ⟨G, q1, rfl⟩ := map_some q
    obtain ⟨p1, p2⟩ := ih cc e a h1 X W C S
    obtain ⟨r1, r2⟩ := andL_ok ih S (e2 :: es) _ G h2 q1
    exact ⟨r_and C p1 r1, fun m t => by
      rw [List.all_cons] at t
      obtain ⟨t1, t2⟩ := and2 t
      exact t_and C (p2 m t1) (r2 m t2)⟩
theorem orL_ok {n : Nat} (ih : SE n) (S : Sd X W C cc) {pos : Pos} : ∀ (es : List Expr) (Fs : List EF) (F : EF), compL (compE n cc) es = some Fs → orL Fs = some F → PE X (.BoolOp .Or es pos) (tE X W (F C)) ∧ ∀ m, es.all (testable m) = true → PW X (.BoolOp .Or es pos) (tB X W (F C))
  | [], _, _, h, q => by cases h; cases q
  | [e], _, _, h, q => by
    obtain ⟨a, h1, h⟩ := bind_some h
    cases h
    cases q
    obtain ⟨p1, p2⟩ := ih cc e _ h1 X W C S
    exact ⟨r_one p1, fun m t => t_or1 (p2 m (by simpa using t))⟩
  | e :: e2 :: es, _, _, h, q => by
    obtain ⟨a, h1, h⟩ := bind_some h
    obtain ⟨as, h2, h⟩ := bind_some h
    cases h
    obtain ⟨b, h3, h4⟩ := bind_some h2
    obtain ⟨bs, h5, h6⟩ := bind_some h4
    cases h6
    obtain ⟨G, q1, rfl⟩ := map_some q
    obtain ⟨p1, p2⟩ := ih cc e a h1 X W C S
    obtain ⟨r1, r2⟩ := orL_ok ih S (e2 :: es) _ G h2 q1
    exact ⟨r_or C p1 r1, fun m t => by
      rw [List.all_cons] at t
      obtain ⟨t1, t2⟩ := and2 t
      exact t_or C (p2 m t1) (r2 m t2)⟩
theorem compOpt_ok {n : Nat} (ih : SE n) (S : Sd X W C cc) (e : Option Expr) (F : Option EF) (h : compOpt (compE n cc) e = some F) : PO X e (tO X W (optF F C)) := by
  cases e with
  | none => cases h; exact o_none C
  | some e =>
    obtain ⟨a, h1, rfl⟩ := map_some h
    exact o_some C (ih cc e a h1 X W C S).1
theorem compI_ok {n : Nat} (ih : SE n) (S : Sd X W C cc) {tg iter : Expr} {F : IF} (h : compI (compE n cc) cc tg iter = some F) : PI X tg iter (tI X W (F C)) ∧ ∀ x, foldedSetIterable iter X.env x = pure x := by
  have dflt : (compE n cc iter).map itE = some F → PI X tg iter (tI X W (F C)) ∧ ∀ x, foldedSetIterable iter X.env x = pure x := fun h => by
    obtain ⟨a, h1, rfl⟩ := map_some h
    exact ⟨i_e C (ih cc iter a h1 X W C S).1, (notSet h1).2 X.env⟩
  unfold compI at h
  split at h
  · rename_i x p a pos
    split at h
    · rename_i q
      obtain ⟨q, rfl⟩ := q
      obtain ⟨b1, b2, _⟩ := blt_ok S q
      obtain ⟨fa, h1, rfl⟩ := map_some h
      exact ⟨i_r1 C b1 b2 (ih cc a fa h1 X W C S).1 (noStar h1 _ _), fun _ => rfl⟩
    · split at h
      · rename_i q
        obtain ⟨q, rfl, q2⟩ := q
        obtain ⟨b1, b2, _⟩ := blt_ok S q
        obtain ⟨fa, h1, rfl⟩ := map_some h
        cases tg <;> first | exact ⟨i_enum C b1 b2 (ih cc a fa h1 X W C S).1 (noStar h1 _ _), fun _ => rfl⟩ | cases q2
      · exact dflt h
  · rename_i x p a b pos
    split at h
    · rename_i q
      obtain ⟨q, rfl⟩ := q
      obtain ⟨b1, b2, _⟩ := blt_ok S q
      obtain ⟨fa, h1, h⟩ := bind_some h
      obtain ⟨fb, h2, rfl⟩ := map_some h
      exact ⟨i_r2 C b1 b2 (ih cc a fa h1 X W C S).1 (ih cc b fb h2 X W C S).1 (noStar h1 _ _) (noStar h2 _ _), fun _ => rfl⟩
    · split at h
      · rename_i q
        obtain ⟨q, rfl, q2⟩ := q
        obtain ⟨b1, b2, _⟩ := blt_ok S q
        obtain ⟨fa, h1, h⟩ := bind_some h
        obtain ⟨fb, h2, rfl⟩ := map_some h
        cases tg <;> first | exact ⟨i_zip C b1 b2 (ih cc a fa h1 X W C S).1 (ih cc b fb h2 X W C S).1 (noStar h1 _ _) (noStar h2 _ _), fun _ => rfl⟩ | cases q2
      · exact dflt h
  · exact dflt h
/-- a comprehension's block -/
theorem Sd.blk (S : Sd X W C cc) (s : Shared) (H : Hp) (scope : Scope) (C' : Addr) (cl : List (Str × Addr)) (fq : List Addr) : Sd (X.blk s H scope (compEnvC scope cl C' X.env) fq) W0 C (blkCC cc scope) where
  N := S.N
  nd := S.nd
  sc := by
    show relS scope X.env.scope = relS scope cc.sc
    rw [S.sc]
  fn := rfl
  calm := S.calm
  tk := takes0
  un := S.un
  gl := fun x g e => by
    have z := S.gl x g e
    cases g with
    | con d => exact z
    | fn np => exact z
    | blt => exact z
theorem compLc_ok {n : Nat} (ih : SE n) (S : Sd X W C cc) {elt tg iter : Expr} {ifs : List Expr} {scope : Scope} {F : EF} (h : compLc (compE n) (testable n) n cc elt tg iter ifs scope = some F) :
    ∃ (fi : IF) (t : TF × List Nat) (ft fe : EF), F = lcF fi t.1 ((ownOf cc scope).map fun (q : Str × Nat) => q.2) ft fe ∧ PI X tg iter (tI X W (fi C)) ∧ (∀ x, foldedSetIterable iter X.env x = pure x) ∧ BlkOk X.N X.env.scope scope (ownOf cc scope) ∧
      (∀ j ∈ t.2, j ∈ (ownOf cc scope).map fun (q : Str × Nat) => q.2) ∧
      (∀ (s : Shared) (H : Hp) (C' : Addr) (cl : List (Str × Addr)) (fq : List Addr), PG (X.blk s H scope (compEnvC scope cl C' X.env) fq) tg (tG X.K t.2 t.1)) ∧
      (∀ (s : Shared) (H : Hp) (C' : Addr) (cl : List (Str × Addr)) (fq : List Addr), PTs (X.blk s H scope (compEnvC scope cl C' X.env) fq) ifs (tB X W0 (ft C))) ∧
      (∀ (s : Shared) (H : Hp) (C' : Addr) (cl : List (Str × Addr)) (fq : List Addr), PE (X.blk s H scope (compEnvC scope cl C' X.env) fq) elt (tE X W0 (fe C))) := by
  unfold compLc at h
  obtain ⟨h0, h⟩ := guardO_some h
  obtain ⟨fi, h1, h⟩ := bind_some h
  obtain ⟨t, h2, h⟩ := bind_some h
  obtain ⟨h3, h⟩ := guardO_some h
  obtain ⟨ft, h4, h⟩ := bind_some h
  obtain ⟨fe, h5, rfl⟩ := map_some h
  obtain ⟨pi, fs⟩ := compI_ok ih S h1
  refine ⟨fi, t, ft, fe, rfl, pi, fs, by rw [S.N, S.sc]; exact blkOk_by h0, fun j hj => ?_, fun s H C' cl fq => ?_, fun s H C' cl fq => ?_, fun s H C' cl fq => ?_⟩
  · have z := List.all_eq_true.mp h3 j hj
    simpa using z
  · exact compT_ok (S.blk s H scope C' cl fq) n tg t h2
  · cases ifs with
    | nil =>
      cases h4
      exact ⟨fun pins s' σ H' Q I q => pts_nil.run pins s' σ H' Q I (by
        obtain ⟨L, h, env, hr, sr, hp⟩ := q
        exact hp L H' (LE.refl _) (Keep.refl _) hr)⟩
    | cons c r =>
      cases r with
      | nil =>
        obtain ⟨h6, h7⟩ := guardO_some h4
        exact pts_one ((ih (blkCC cc scope) c ft h7 _ W0 C (S.blk s H scope C' cl fq)).2 n h6)
      | cons _ _ => cases h4
  · exact (ih (blkCC cc scope) elt fe h5 _ W0 C (S.blk s H scope C' cl fq)).1
end
end VM

set_option maxRecDepth 100000
set_option maxHeartbeats 4000000
namespace VM
open PySem PySem.Spec PyProof.Rows L2
theorem plainIx_of {b : Expr} (h : notSl b = true) : PlainIx b := fun o i => by
  cases b <;> first | rfl | cases h
theorem base_of {o : Expr} (h : notCall o = true) (name : Str) (env : PySem.Env) : attributeBase o name env (eval o env) = eval o env := by
  cases o <;> first | rfl | cases h
theorem few_of {pos : Pos} {as : List Expr} {env : PySem.Env} (h : (backTo pos (starEach as env)).all (fun x => !x.1) = true) (hl : as.length < 20) :
    ((backTo pos (starEach as env)).all (fun x => !x.1) && (backToKw pos (keywordEach [] env)).all (fun x => x.1.isSome) && decide (as.length + ([] : List Keyword).length + (if ([] : List Keyword).isEmpty then 0 else 1) < 30)) = true := by
  rw [h]
  have e : decide (as.length + ([] : List Keyword).length + (if ([] : List Keyword).isEmpty then 0 else 1) < 30) = true := decide_eq_true (by simp; omega)
  rw [e]
  rfl
theorem compE_ok : ∀ n, SE n
  | 0 => fun cc e F h => by cases h
  | n + 1 => fun cc e F h X W C S => by
    have ih := compE_ok n
    have E : ∀ {a : Expr} {fa : EF}, compE n cc a = some fa → PE X a (tE X W (fa C)) := fun {a fa} h => (ih cc a fa h X W C S).1
    have T : ∀ {a : Expr} {fa : EF} {m}, compE n cc a = some fa → testable m a = true → PT X a (tB X W (fa C)) := fun {a fa m} h t => (ih cc a fa h X W C S).2 m t
    have val : ∀ {f : Fe}, PE X e (tE X W f) → (∀ whole, isTrue e X.env whole = (do let v ← whole; standAt e.pos; holding [v] (truthy v))) → PE X e (tE X W f) ∧ ∀ m, testable m e = true → PT X e (tB X W f) := fun {f} p t => ⟨p, fun _ _ => t_val p t⟩
    unfold compE at h
    split at h
    · -- a name
      rename_i x pos
      obtain ⟨h0, h⟩ := guardO_some h
      obtain ⟨d1, d2, d3⟩ := okNm_ok h0
      split at h
      · rename_i v
        obtain ⟨i, h1, rfl⟩ := map_some h
        exact val (r_var C (by rw [S.N]; exact slot_ok h1) (by rw [S.sc]; exact vis_ok v) d1 d2) fun _ => rfl
      · obtain ⟨h1, h⟩ := guardO_some h
        split at h
        · rename_i d eg
          cases h
          obtain ⟨u, v, e1, e2, e3⟩ := S.gl x _ eg
          exact val (r_glob C (glo_ok S.sc h1) e1 e2 e3 d1) fun _ => rfl
        · cases h
    · cases h; exact val (r_int C) fun _ => rfl
    · cases h; exact val (r_str C) fun _ => rfl
    · cases h; exact val (r_bl C) fun _ => rfl
    · cases h; exact val (r_non C) fun _ => rfl
    · -- a op b
      obtain ⟨fa, h1, h⟩ := bind_some h
      obtain ⟨fb, h2, h⟩ := bind_some h
      obtain ⟨g, h3, rfl⟩ := map_some h
      obtain ⟨r, o1, o2⟩ := optab_ok (X := X) (W := W) h3
      exact val (r_op C o1 o2 (E h1) (E h2)) fun _ => rfl
    · -- not
      obtain ⟨fa, h1, rfl⟩ := map_some h
      refine ⟨r_not C (E h1), fun m t => ?_⟩
      cases m with
      | zero => cases t
      | succ m => exact t_not C (T h1 (show testable m _ = true from t))
    · obtain ⟨fa, h1, rfl⟩ := map_some h
      exact val (r_un C o_neg un_neg (E h1)) fun _ => rfl
    · -- one comparison
      obtain ⟨fa, h1, h⟩ := bind_some h
      obtain ⟨fb, h2, h⟩ := bind_some h
      obtain ⟨g, h3, rfl⟩ := map_some h
      obtain ⟨r, o1, o2⟩ := cmptab_ok S h3
      exact ⟨r_cmp C o1 o2 ((notSet h2).1 _) (E h1) (E h2), fun _ _ => t_cmp C o1 o2 ((notSet h2).1 _) (E h1) (E h2)⟩
    · -- two
      obtain ⟨fa, h1, h⟩ := bind_some h
      obtain ⟨fb, h2, h⟩ := bind_some h
      obtain ⟨fc, h3, h⟩ := bind_some h
      obtain ⟨g, h4, h⟩ := bind_some h
      obtain ⟨g', h5, rfl⟩ := map_some h
      obtain ⟨r, o1, o2⟩ := cmptab_ok S h4
      obtain ⟨r', o1', o2'⟩ := cmptab_ok S h5
      exact ⟨r_chain C o1 o1' o2 o2' ((notSet h3).1 _) (E h1) (E h2) (E h3), fun _ _ => t_chain C o1 o1' o2 o2' ((notSet h3).1 _) (E h1) (E h2) (E h3)⟩
    · obtain ⟨fs, h1, h⟩ := bind_some h
      obtain ⟨p1, p2⟩ := andL_ok ih S _ _ _ h1 h
      refine ⟨p1, fun m t => ?_⟩
      cases m with
      | zero => cases t
      | succ m => exact (p2 m t).pt
    · obtain ⟨fs, h1, h⟩ := bind_some h
      obtain ⟨p1, p2⟩ := orL_ok ih S _ _ _ h1 h
      refine ⟨p1, fun m t => ?_⟩
      cases m with
      | zero => cases t
      | succ m => exact (p2 m t).pt
    · obtain ⟨h0, h⟩ := guardO_some h
      obtain ⟨fc, h1, h⟩ := bind_some h
      obtain ⟨fa, h2, h⟩ := bind_some h
      obtain ⟨fb, h3, rfl⟩ := map_some h
      refine ⟨r_ite C (T h1 h0) (E h2) (E h3), fun m t => ?_⟩
      cases m with
      | zero => cases t
      | succ m => cases t
    · obtain ⟨fs, h1, rfl⟩ := map_some h
      exact val (r_tup C (compL_ok ih S _ _ h1)) fun _ => rfl
    · obtain ⟨fs, h1, rfl⟩ := map_some h
      exact val (r_lst C (compL_ok ih S _ _ h1)) fun _ => rfl
    · obtain ⟨fa, h1, h⟩ := bind_some h
      obtain ⟨fl, h2, h⟩ := bind_some h
      obtain ⟨fh, h3, rfl⟩ := map_some h
      exact val (r_slc C o_sl sl_B (E h1) (compOpt_ok ih S _ _ h2) (compOpt_ok ih S _ _ h3)) fun _ => rfl
    · obtain ⟨h0, h⟩ := guardO_some h
      obtain ⟨fa, h1, h⟩ := bind_some h
      obtain ⟨fb, h2, rfl⟩ := map_some h
      exact val (r_ix C o_ix ix_seq (E h1) (E h2) (plainIx_of h0)) fun _ => rfl
    · obtain ⟨fi, t, ft, fe, rfl, p1, p2, p3, p4, p5, p6, p7⟩ := compLc_ok ih S h
      exact val (PE.weak (pe_lc S.calm S.nd p1 p3 p5 p6 p7 p2) (lc_read C p4)) fun _ => rfl
    · -- a call by name
      rename_i x p a as pos
      obtain ⟨h0, hA⟩ := guardO_some h
      obtain ⟨g1, h0⟩ := and2 h0
      obtain ⟨d1, d2, d3⟩ := okNm_ok h0
      have gl := glo_ok S.sc g1
      clear h
      split at hA
      · rename_i np eg
        obtain ⟨fs, h1, rfl⟩ := map_some hA
        obtain ⟨k, f, fd, ps, e1, F1, e2, rm, e3, e4, e5⟩ := S.gl x _ eg
        obtain ⟨b, h2, h3⟩ := bind_some h1
        obtain ⟨bs, h4, h5⟩ := bind_some h3
        exact val (r_call C S.tk F1 e2 rm gl e3 e4 e5 (compL_ok ih S _ _ h1) d1 (noStar h2 _ _) (noStars h4 _ _).1) fun _ => rfl
      · rename_i eg
        have mg := S.gl x _ eg
        split at hA
        · rename_i ex
          subst ex
          cases as with
          | nil => cases hA
          | cons b1 bs =>
            cases b1 <;> try (cases hA; done)
            rename_i T p2
            cases bs with
            | cons _ _ => cases hA
            | nil =>
              obtain ⟨h1, hA⟩ := guardO_some hA
              obtain ⟨ty, h2, hA⟩ := bind_some hA
              obtain ⟨fa, h3, rfl⟩ := map_some hA
              obtain ⟨b1, b2, b3, b4⟩ := blt_ok S h1
              obtain ⟨t1, t2⟩ := tyTab_ok h2
              exact val (r_isi C gl mg b1 b2 t1 t2 b4 b3 (E h3) (noStar h3 _ _)) fun _ => rfl
        · split at hA
          · rename_i c ec
            unfold lrgA at ec
            split at ec
            · rename_i ex
              subst ex
              split at ec
              · split at ec
                · rename_i q
                  obtain ⟨q, rfl⟩ := q
                  cases ec
                  obtain ⟨b1, b2, _⟩ := blt_ok S q
                  obtain ⟨fa, h1, rfl⟩ := map_some hA
                  exact val (r_lrg C S.calm gl mg b1 b2 (E h1) (noStar h1 _ _)) fun _ => rfl
                · cases ec
              · cases ec
            · cases ec
          obtain ⟨g, h1, hA⟩ := bind_some hA
          obtain ⟨fs, h2, rfl⟩ := map_some hA
          obtain ⟨b, h3, h4⟩ := bind_some h2
          obtain ⟨bs, h5, h6⟩ := bind_some h4
          obtain ⟨r, o1, o2⟩ := bltTab_ok S h1
          rcases o2 with ⟨id, o2, o3⟩ | ⟨id, o2, o3⟩
          · exact val (r_cb C o1 o2 gl mg o3 (compL_ok ih S _ _ h2) d3 d1 (noStar h3 _ _) (noStars h5 _ _).1) fun _ => rfl
          · exact val (r_ct C o1 o2 gl mg o3 (compL_ok ih S _ _ h2) d3 d1 (noStar h3 _ _) (noStars h5 _ _).1) fun _ => rfl
      · cases hA
    · -- a method
      obtain ⟨h0, h⟩ := guardO_some h
      obtain ⟨c1, h0⟩ := and2 h0
      obtain ⟨c2, c3⟩ := and2 h0
      obtain ⟨g, h1, h⟩ := bind_some h
      obtain ⟨fo, h2, h⟩ := bind_some h
      obtain ⟨fs, h3, rfl⟩ := map_some h
      obtain ⟨b, h4, h5⟩ := bind_some h3
      obtain ⟨bs, h6, h7⟩ := bind_some h5
      obtain ⟨r, id, o1, o2, o3, o4⟩ := mthTab_ok (X := X) (W := W) h1
      exact val (r_meth C o1 o2 o3 o4 (E h2) (compL_ok ih S _ _ h3) (base_of c1 _ _) (few_of (noStars h3 _ _).2 (of_decide_eq_true c2)) c3 (noStar h4 _ _) (noStars h6 _ _).1) fun _ => rfl
    · obtain ⟨h0, h⟩ := guardO_some h
      obtain ⟨c1, c3⟩ := and2 h0
      obtain ⟨g, h1, h⟩ := bind_some h
      obtain ⟨fo, h2, rfl⟩ := map_some h
      obtain ⟨r, id, o1, o2, o3, o4⟩ := mthTab0_ok (X := X) (W := W) h1
      exact val (r_meth0 C o1 o2 o3 o4 (E h2) (base_of c1 _ _) c3) fun _ => rfl
    · cases h
end VM

set_option maxRecDepth 100000
set_option maxHeartbeats 4000000
namespace VM
open PySem PySem.Spec PyProof.Rows L2
structure SdS (X : Cx) (W : WX) (C : Or) (cc : CC) : Prop extends Sd X W C cc where
  po : PassesOwn (model X.prog X.w) X.A X.env X.xe
  kd : X.env.scope.kind = .function
theorem swF {e : Expr} (h : isLc e = false) (t : Option Expr) (l : Nat) (env : PySem.Env) : swapsWith e t l env = pure false := by
  cases e <;> first | rfl | cases h
theorem lc_inv {n : Nat} {cc : CC} {elt : Expr} {gens : List Comprehension} {scope : Scope} {pos : Pos} {F : EF} (h : compE n cc (.ListComp elt gens scope pos) = some F) :
    ∃ m tg iter ifs, n = m + 1 ∧ gens = [⟨tg, iter, ifs, 0⟩] ∧ compLc (compE m) (testable m) m cc elt tg iter ifs scope = some F := by
  cases n with
  | zero => cases h
  | succ m =>
    unfold compE at h
    split at h <;> first
      | (rename_i q; cases q; exact ⟨m, _, _, _, rfl, rfl, h⟩)
      | (rename_i q _; cases q; done)
      | (rename_i q; cases q; done)
      | cases h
      | skip
    all_goals simp_all
theorem kindOf_eq {X : Cx} {cc : CC} (e : X.env.scope = cc.sc) (x : Str) : X.env.kindOf x = cc.sc.names.lookup x := by
  show X.env.scope.names.lookup x = _
  rw [e]
section
variable {X : Cx} {W : WX} {C : Or} {cc : CC}
theorem nmLoc_ok (S : Sd X W C cc) {x : Str} (h : nmLoc cc x = true) : X.env.scope.names.lookup x = some .local := by
  unfold nmLoc at h
  split at h
  · rename_i z; rw [S.sc]; exact z
  · cases h
theorem compSet_ok (S : SdS X W C cc) {n : Nat} {x : Str} {px pos : Pos} {e : Expr} {F : SF} (h : compSet n cc x px e pos = some F) : PS X (.Assign [.Name x px] e pos) (tS X W (F C)) := by
  unfold compSet at h
  obtain ⟨i, h1, h⟩ := bind_some h
  obtain ⟨h2, h⟩ := guardO_some h
  obtain ⟨f, h3, h⟩ := bind_some h
  have hi : X.N[i]? = some x := by rw [S.N]; exact slot_ok h1
  have loc : Loc X.env.scope x ∧ (X.fn x = true ∨ X.env.scope.names.lookup x = some .local) := by
    rcases Bool.or_eq_true_iff.mp h2 with z | z
    · exact ⟨.inl (nmLoc_ok S.toSd z), .inr (nmLoc_ok S.toSd z)⟩
    · split at z
      · rename_i q
        exact ⟨.inr (by rw [S.sc]; exact q), .inl (by rw [S.fn]; exact z)⟩
      · cases z
  have he := (compE_ok n cc e f h3 X W C S.toSd).1
  have plain : swapsWith e (some (.Name x px)) pos.line X.env = pure false → F = asgS (nmT i) f → PS X (.Assign [.Name x px] e pos) (tS X W (F C)) := fun sw eF => by
    subst eF
    exact s_set C S.nd hi loc.1 he sw loc.2
  cases q : isLc e with
  | false =>
    refine plain (swF q _ _ _) ?_
    cases e <;> first
      | (cases q; done)
      | (cases h; rfl)
  | true =>
    cases e with
    | ListComp elt gens scope lpos =>
      have h' : (if nmLoc cc x = true then guardO ((px.line == lpos.line) && !(scope.names.any fun (n, k) => n == x && (k == .local || k == .cell))) (some (asgS (nmT i) f)) else some (asgS (nmT i) f)) = some F := h
      split at h'
      · rename_i nl
        obtain ⟨h4, h5⟩ := guardO_some h'
        cases h5
        obtain ⟨h6, h7⟩ := and2 h4
        have h7' : (scope.names.any fun (n, k) => n == x && (k == .local || k == .cell)) = false := by
          cases z : (scope.names.any fun (n, k) => n == x && (k == .local || k == .cell)) with
          | false => rfl
          | true => rw [z] at h7; exact absurd h7 (by decide)
        obtain ⟨m, tg, iter, ifs, rfl, rfl, h8⟩ := lc_inv h3
        obtain ⟨fi, t, ft, fe, rfl, p1, p2, p3, p4, p5, p6, p7⟩ := compLc_ok (compE_ok m) S.toSd h8
        have lx := nmLoc_ok S.toSd nl
        refine PS.weak (ps_setLc S.calm S.nd hi lx (sw_true S.kd lx h6 h7') p1 p3 p5 p6 p7 p2) fun D_ σ H ⟨L, h, env, hr, sr, hp⟩ => ?_
        have hq := lc_read (X := X) (W := W) C p4 (fi := fi) (t := t.1) (ft := ft) (fe := fe) σ H (fun v H1 => gName i v σ H1 D_.nx) ⟨L, h, env, hr, sr, pS.then_ sr hp fun d h1 L1 H1 v le kp hr1 r1 hp1 => ?_⟩
        · exact hq
        · unfold nmT at hp1
          split at hp1
          · rename_i env1 e1
            split at e1
            · cases e1
              exact hp1 L1 H1 _ (LE.refl _) (Keep.refl _) hr1 ((sr.mono le kp).set r1)
            · cases e1
          · exact hp1.elim
      · rename_i nl
        cases h'
        refine plain ?_ rfl
        have k : (X.env.kindOf x == some NameKind.local) = false := by
          rw [kindOf_eq S.sc]
          rcases Bool.or_eq_true_iff.mp h2 with z | z
          · exact absurd z nl
          · split at z
            · rename_i q; rw [q]; rfl
            · cases z
        unfold swapsWith
        simp only [k, Bool.and_false, Bool.false_and]
    | SetComp _ _ _ _ => cases n <;> cases h3
    | DictComp _ _ _ _ _ => cases n <;> cases h3
    | _ => cases q
end
theorem notT {b : Bool} (h : (!b) = true) : b = false := by
  cases b with
  | false => rfl
  | true => cases h
def isStar : Expr → Bool
  | .Starred _ _ => true
  | _ => false
theorem par_sw {env : PySem.Env} {x y : Str} {px py pt : Pos} {kt k2 : Nat} {pt2 : Pos} {a b : Expr} (hk : env.scope.kind = .function) (hx : env.kindOf x = some .local) (hy : env.kindOf y = some .local) (hl : (px.line == py.line) = true) (hne : x ≠ y)
    (h1 : [a, b].all (foldedForSure 8) = false) (h2 : [a, b].all (constantsAlone 8) = false) (sa : isStar a = false) (sb : isStar b = false) :
    swappedStores [.Tuple [.Name x px, .Name y py] kt pt] (.Tuple [a, b] k2 pt2) env = pure (some [x, y]) := by
  have bk : env.blockKind = .function := by unfold Env.blockKind; rw [hk]; rfl
  have s : ([a, b].any fun | .Starred .. => true | _ => false) = false := by
    cases a <;> first | (cases b <;> first | rfl | (cases sb; done)) | (cases sa; done)
  have e1 : py.line = px.line := (beq_iff_eq.mp hl).symm
  have e3 : ([x, y] : List Str).eraseDups = [x, y] := by
    simp [List.eraseDups_cons, hne.symm]
  unfold swappedStores
  simp only [s, h1, h2]
  simp [bk, hx, hy, e1, e3, Expr.pos]
  rintro (z | z)
  · cases a <;> first | (cases z; done) | (cases sa; done)
  · cases b <;> first | (cases z; done) | (cases sb; done)
theorem par_no {env : PySem.Env} {x y : Str} {px py pt : Pos} {kt k2 : Nat} {pt2 : Pos} {a b : Expr} (hk : env.scope.kind = .function) (hx : ¬ (env.kindOf x = some .local ∧ env.kindOf y = some .local)) (sa : isStar a = false) (sb : isStar b = false) :
    swappedStores [.Tuple [.Name x px, .Name y py] kt pt] (.Tuple [a, b] k2 pt2) env = pure none := by
  have bk : env.blockKind = .function := by unfold Env.blockKind; rw [hk]; rfl
  have s : ([a, b].any fun | .Starred .. => true | _ => false) = false := by
    cases a <;> first | (cases b <;> first | rfl | (cases sb; done)) | (cases sa; done)
  unfold swappedStores
  simp only [s]
  by_cases h : env.kindOf x = some .local
  · have h' : env.kindOf y ≠ some .local := fun z => hx ⟨h, z⟩
    simp [bk, h, h', Expr.pos]
  · by_cases h2 : env.kindOf y = some .local
    · by_cases h3 : py.line = px.line
      · simp [bk, h, h2, h3, Expr.pos]
      · simp [bk, h, h2, h3, Expr.pos]
    · simp [bk, h, h2, Expr.pos]
theorem star_of {n : Nat} {cc : CC} {e : Expr} {F : EF} (h : compE n cc e = some F) : isStar e = false := by
  cases n with
  | zero => cases h
  | succ n => cases e <;> first | rfl | cases h
theorem tupE_of {n : Nat} {cc : CC} {es : List Expr} {k k' : Nat} {p p' : Pos} {F : EF} (h : compE n cc (.Tuple es k p) = some F) : compE n cc (.Tuple es k' p') = some F ∧ isLc (.Tuple es k' p') = false := by
  cases n with
  | zero => cases h
  | succ n => exact ⟨h, rfl⟩
theorem tupT_of {n : Nat} {cc : CC} {es : List Expr} {k k' : Nat} {p p' : Pos} {F : TF × List Nat} (h : compT n cc (.Tuple es k p) = some F) : compT n cc (.Tuple es k' p') = some F := by
  cases n with
  | zero => cases h
  | succ n => exact h
section
variable {X : Cx} {W : WX} {C : Or} {cc : CC}
abbrev SS (n : Nat) : Prop := ∀ (cc : CC) (s : Stmt) (F : SF), compS n cc s = some F → ∀ (X : Cx) (W : WX) (C : Or), SdS X W C cc → PS X s (tS X W (F C))
theorem compSs_ok {n : Nat} (ih : SS n) (S : SdS X W C cc) : ∀ (ss : List Stmt) (F : SF), compSs (compS n cc) ss = some F → PSs X ss (tS X W (F C))
  | [], _, h => by cases h; exact s_nil
  | s :: ss, _, h => by
    obtain ⟨a, h1, h⟩ := bind_some h
    obtain ⟨b, h2, rfl⟩ := map_some h
    exact s_cons C (ih cc s a h1 X W C S) (compSs_ok ih S ss b h2)
theorem compS_ok : ∀ n, SS n
  | 0 => fun cc s F h => by cases h
  | n + 1 => fun cc s F h X W C S => by
    have ih := compS_ok n
    have E : ∀ {a : Expr} {fa : EF}, compE n cc a = some fa → PE X a (tE X W (fa C)) := fun {a fa} h => (compE_ok n cc a fa h X W C S.toSd).1
    have T : ∀ {a : Expr} {fa : EF} {m}, compE n cc a = some fa → testable m a = true → PT X a (tB X W (fa C)) := fun {a fa m} h t => (compE_ok n cc a fa h X W C S.toSd).2 m t
    unfold compS at h
    split at h
    · cases h; exact s_pass C
    · cases h; exact s_break C
    · cases h; exact s_cont C
    · cases h; exact PS.weak ps_never fun D_ σ H ⟨L, h, env, hr, sr, hp⟩ => hp.elim
    · cases h; exact s_retN C
    · obtain ⟨f, h1, rfl⟩ := map_some h
      exact s_ret C (E h1)
    · obtain ⟨h0, h⟩ := guardO_some h
      obtain ⟨f, h1, rfl⟩ := map_some h
      exact s_exp C (E h1) (swF (by simpa using h0) _ _ _)
    · obtain ⟨h0, h⟩ := guardO_some h
      obtain ⟨fc, h1, h⟩ := bind_some h
      obtain ⟨fa, h2, h⟩ := bind_some h
      obtain ⟨fb, h3, rfl⟩ := map_some h
      exact s_if C (T h1 h0) (compSs_ok ih S _ _ h2) (compSs_ok ih S _ _ h3)
    · obtain ⟨h0, h⟩ := guardO_some h
      obtain ⟨fc, h1, h⟩ := bind_some h
      obtain ⟨fa, h2, rfl⟩ := map_some h
      exact s_while C S.po (T h1 h0) (compSs_ok ih S _ _ h2)
    · obtain ⟨fi, h1, h⟩ := bind_some h
      obtain ⟨t, h2, h⟩ := bind_some h
      obtain ⟨fa, h3, rfl⟩ := map_some h
      obtain ⟨p1, p2⟩ := compI_ok (compE_ok n) S.toSd h1
      exact s_for C S.po S.calm p1 (compT_ok S.toSd n _ t h2) (compSs_ok ih S _ _ h3) p2
    · exact compSet_ok S h
    · rename_i o i tpos e pos
      obtain ⟨h0, h⟩ := guardO_some h
      obtain ⟨fo, h1, h⟩ := bind_some h
      obtain ⟨fi, h2, h⟩ := bind_some h
      obtain ⟨f, h3, rfl⟩ := map_some h
      refine s_setL C (E h3) (E h1) (E h2) (fun v => ?_) ?_ ?_ rfl
      · cases i <;> first | rfl | cases h0
      · cases e <;> rfl
      · cases e <;> rfl
    · rename_i x px y py kt pt a b k2 pt2 pos
      split at h
      · rename_i nl
        obtain ⟨h0, h⟩ := guardO_some h
        obtain ⟨l1, h0⟩ := and2 h0
        obtain ⟨l2, h0⟩ := and2 h0
        obtain ⟨l3, l4⟩ := and2 h0
        obtain ⟨i, h1, h⟩ := bind_some h
        obtain ⟨j, h2, h⟩ := bind_some h
        obtain ⟨h3, h⟩ := guardO_some h
        obtain ⟨fa, h4, h⟩ := bind_some h
        obtain ⟨fb, h5, rfl⟩ := map_some h
        have lx := nmLoc_ok S.toSd nl.1
        have ly := nmLoc_ok S.toSd nl.2
        exact s_par C S.calm S.nd (by rw [S.N]; exact slot_ok h1) (by rw [S.N]; exact slot_ok h2) (of_decide_eq_true h3) lx ly (E h4) (E h5) (noStar h4 _ _) (noStar h5 _ _)
          (par_sw S.kd lx ly l1 (of_decide_eq_true l2) (notT l3) (notT l4) (star_of h4) (star_of h5)) rfl
      · rename_i nl
        obtain ⟨t, h1, h⟩ := bind_some h
        obtain ⟨f, h2, rfl⟩ := map_some h
        have h3 := (tupE_of (k' := k2) (p' := pt2) h2).1
        have st : isStar a = false ∧ isStar b = false := by
          cases n with
          | zero => cases h2
          | succ m =>
            obtain ⟨fs, q1, q2⟩ := map_some (show (compL (compE m cc) [a, b]).map tupF = some f from h2)
            obtain ⟨fa, q3, q4⟩ := bind_some q1
            obtain ⟨as, q5, q6⟩ := bind_some q4
            obtain ⟨fb, q7, q8⟩ := bind_some q5
            exact ⟨star_of q3, star_of q7⟩
        have no : ¬ (X.env.kindOf x = some .local ∧ X.env.kindOf y = some .local) := fun z => nl (by
          rw [kindOf_eq S.sc, kindOf_eq S.sc] at z
          unfold nmLoc
          rw [z.1, z.2]
          exact ⟨rfl, rfl⟩)
        exact s_asg C (E h3) (compT_ok S.toSd n _ t (tupT_of h1)) rfl (par_no S.kd no st.1 st.2) rfl
    · rename_i es k p e pos nn
      obtain ⟨h0, h⟩ := guardO_some h
      obtain ⟨t, h1, h⟩ := bind_some h
      obtain ⟨f, h2, rfl⟩ := map_some h
      refine s_asg C (E h2) (compT_ok S.toSd n _ t (tupT_of h1)) ?_ ?_ rfl
      · cases e <;> rfl
      · cases e <;> first | rfl | cases h0
    · cases h
end
end VM

set_option maxRecDepth 100000
set_option maxHeartbeats 4000000
namespace VM
open PySem PySem.Spec PyProof.Rows L2
section
variable {K : PySem.W.Frag} {mg : Str → Option Value} {L L' : List Addr} {H H' : Hp} {h h' : Hv}
mutual
theorem Rel.back (le : LE L L') : ∀ {d : D} {v u : V}, Rel K L' H' d v → Rel K L H d u → Rel K L H' d v
  | _, _, _, .non, _ => .non
  | _, _, _, .bl b, _ => .bl b
  | _, _, _, .int i, _ => .int i
  | _, _, _, .str s, _ => .str s
  | _, _, _, .tup h r, .tup h2 r2 => .tup h (Rels.back le r r2)
  | _, _, _, .ref h, .ref h2 => .ref (by
    have z := le _ _ h2
    rw [h] at z
    cases z
    exact h2)
theorem Rels.back (le : LE L L') : ∀ {ds : List D} {vs us : List V}, Rels K L' H' ds vs → Rels K L H ds us → Rels K L H' ds vs
  | _, _, _, .nil, _ => .nil
  | _, _, _, .cons r t, .cons r2 t2 => .cons (Rel.back le r r2) (Rels.back le t t2)
end
mutual
theorem Rel.ground : ∀ {d : D} {v : V}, Rel K L' H' d v → d.gr = true → Rel K L H' d v
  | _, _, .non, _ => .non
  | _, _, .bl b, _ => .bl b
  | _, _, .int i, _ => .int i
  | _, _, .str s, _ => .str s
  | _, _, .tup h r, g => .tup h (Rels.ground r (by simpa [D.gr] using g))
  | _, _, .ref h, g => by simp [D.gr] at g
theorem Rels.ground : ∀ {ds : List D} {vs : List V}, Rels K L' H' ds vs → D.grs ds = true → Rels K L H' ds vs
  | _, _, .nil, _ => .nil
  | _, _, .cons r t, g => by
    simp only [D.grs, Bool.and_eq_true] at g
    exact .cons (Rel.ground r g.1) (Rels.ground t g.2)
end
theorem LE.split (le : LE L L') : L'.take L.length = L := by
  apply List.ext_getElem?
  intro i
  rw [List.getElem?_take]
  split
  · rename_i hi
    have z := le i L[i] (List.getElem?_eq_getElem hi)
    rw [z, List.getElem?_eq_getElem hi]
  · rename_i hi
    rw [List.getElem?_eq_none (by omega)]
theorem HR.cut (hr : HR K L H h) (le : LE L L') (kp : Keep K H H') (hr' : HR K L' H' h') (hl : h.length ≤ h'.length) (sg : sameOrGr h h' = true) : HR K L H' (h'.take h.length) := by
  have at_ : ∀ {i : Nat} {o : Ob}, (h'.take h.length)[i]? = some o → i < h.length ∧ h'[i]? = some o := fun {i o} e => by
    rw [List.getElem?_take] at e
    split at e
    · rename_i hi; exact ⟨hi, e⟩
    · cases e
  have same : ∀ {i : Nat} {o : Ob}, i < h.length → h'[i]? = some o → h[i]? = some o ∨ o.gr = true := fun {i o} hi e => by
    have z := List.all_eq_true.mp sg i (List.mem_range.mpr hi)
    rcases Bool.or_eq_true_iff.mp z with z | z
    · left; rw [← of_decide_eq_true z]; exact e
    · right; rw [e] at z; exact z
  refine ⟨by rw [List.length_take, hr.len]; omega, fun i a ds e1 e2 => ?_, fun i a ds e1 e2 => ?_, fun i j a ds es e1 e2 e3 e4 => ?_⟩
  · obtain ⟨hi, e1⟩ := at_ e1
    obtain ⟨xs, q, r⟩ := hr'.lst i a ds e1 (le _ _ e2)
    refine ⟨xs, q, ?_⟩
    rcases same hi e1 with z | z
    · obtain ⟨ys, _, r2⟩ := hr.lst i a ds z e2
      exact r.back le r2
    · exact r.ground z
  · obtain ⟨hi, e1⟩ := at_ e1
    obtain ⟨xs, q, r⟩ := hr'.ro i a ds e1 (le _ _ e2)
    refine ⟨xs, q, ?_⟩
    rcases same hi e1 with z | z
    · obtain ⟨ys, _, r2⟩ := hr.ro i a ds z e2
      exact r.back le r2
    · exact r.ground z
  · obtain ⟨hi, e1⟩ := at_ e1
    obtain ⟨hj, e2⟩ := at_ e2
    exact hr'.inj i j a ds es e1 e2 (le _ _ e3) (le _ _ e4)
theorem gc_ok {W : WX} {σ : L2.St} {Q : VK} {d : D} (hr : HR K L H h) (p : pR K mg L H W σ Q (gc h d h')) : ∀ L' H' v, LE L L' → Keep K H H' → HR K L' H' h' → Rel K L' H' d v → Q v H' := by
  intro L' H' v le kp hr' rel
  unfold gc at p
  split at p
  · rename_i c
    have hc := hr.cut le kp hr' c.1 c.2
    split at p
    · rename_i g
      exact p L H' v (LE.refl _) kp hc (rel.ground g)
    · split at p
      · rename_i i _
        split at p
        · rename_i ds e
          split at p
          · rename_i q
            cases rel with
            | @ref _ a ea =>
              obtain ⟨xs, hx, r⟩ := hr'.lst i a ds e ea
              refine p (L ++ [a]) H' (.ref a) (LE.app _ _) kp ?_ (.ref (by rw [← hr.len]; simp))
              have lt : (h'.take h.length).length = h.length := by rw [List.length_take]; have := c.1; omega
              have old : ∀ {j : Nat} {o : Ob}, (h'.take h.length ++ [.lst ds])[j]? = some o → (j < h.length ∧ (h'.take h.length)[j]? = some o) ∨ (j = h.length ∧ o = .lst ds) := fun {j o} e => by
                by_cases hj : j < h.length
                · rw [List.getElem?_append_left (by omega)] at e; exact .inl ⟨hj, e⟩
                · have e2 : j < (h'.take h.length ++ [Ob.lst ds]).length := (List.getElem?_eq_some_iff.mp e).1
                  rw [List.length_append, lt] at e2
                  have e3 : j = h.length := by simp at e2; omega
                  subst e3
                  rw [List.getElem?_append_right (by omega), lt] at e
                  simp at e
                  exact .inr ⟨rfl, e.symm⟩
              have oldL : ∀ {j : Nat} {b : Addr}, j < h.length → (L ++ [a])[j]? = some b → L[j]? = some b := fun {j b} hj e => by
                rw [List.getElem?_append_left (by rw [hr.len]; exact hj)] at e; exact e
              have newL : ∀ {b : Addr}, (L ++ [a])[h.length]? = some b → b = a := fun {b} e => by
                rw [← hr.len] at e; simp at e; exact e.symm
              have far : ∀ {j : Nat} {es : List D}, j < h.length → (h'.take h.length)[j]? = some (.lst es) → L[j]? = some a → False := fun {j es} hj e1 e2 => by
                have e3 : h'[j]? = some (.lst es) := by
                  rw [List.getElem?_take, if_pos hj] at e1
                  exact e1
                have := hr'.inj j i a es ds e3 e (le _ _ e2) ea
                omega
              refine ⟨by simp [hr.len, lt], fun j b es e1 e2 => ?_, fun j b es e1 e2 => ?_, fun j k b es fs e1 e2 e3 e4 => ?_⟩
              · rcases old e1 with ⟨hj, e1⟩ | ⟨rfl, e9⟩
                · obtain ⟨ys, q1, s⟩ := hc.lst j b es e1 (oldL hj e2)
                  exact ⟨ys, q1, s.mono (LE.app _ _) (Keep.refl _)⟩
                · cases e9
                  obtain rfl := newL e2
                  exact ⟨xs, hx, r.ground q.2⟩
              · rcases old e1 with ⟨hj, e1⟩ | ⟨rfl, e9⟩
                · obtain ⟨ys, q1, s⟩ := hc.ro j b es e1 (oldL hj e2)
                  exact ⟨ys, q1, s.mono (LE.app _ _) (Keep.refl _)⟩
                · cases e9
              · rcases old e1 with ⟨hj, e1⟩ | ⟨rfl, e9⟩
                · rcases old e2 with ⟨hk, e2⟩ | ⟨rfl, e9⟩
                  · exact hc.inj j k b es fs e1 e2 (oldL hj e3) (oldL hk e4)
                  · obtain rfl := newL e4
                    exact (far hj e1 (oldL hj e3)).elim
                · rcases old e2 with ⟨hk, e2⟩ | ⟨rfl, e8⟩
                  · obtain rfl := newL e3
                    exact (far hk e2 (oldL hk e4)).elim
                  · rfl
          · exact p L' H' v le kp hr' rel
        · exact p L' H' v le kp hr' rel
      · exact p L' H' v le kp hr' rel
  · exact p L' H' v le kp hr' rel
end
/-! the text's defs -/
structure Row where
  x : Str
  st : Stmt
  N : List Str
  ps : List Str
  fr : FnRec
def Row.okB (r : Row) : Bool :=
  (match (defScope r.st).kind with
    | .function => true
    | _ => false) && (!(defScope r.st).isCoroutine && (!(defScope r.st).isGenerator && (decide r.N.Nodup && (decide (r.N.take r.ps.length = r.ps) && ((r.ps.all fun x => match (defScope r.st).names.lookup x with
      | some .local => true
      | some .cell => true
      | _ => false) && (((defScope r.st).names.all fun y => match y.2 with
      | .free => false
      | _ => true) && (decide (r.ps.length = r.fr.np) && decide (r.N.length = r.fr.nl))))))))
theorem Row.scope {r : Row} (h : r.okB = true) : FnScope r.N r.ps (defScope r.st) ∧ r.ps.length = r.fr.np ∧ r.N.length = r.fr.nl := by
  unfold Row.okB at h
  obtain ⟨h1, h⟩ := and2 h
  obtain ⟨h2, h⟩ := and2 h
  obtain ⟨h3, h⟩ := and2 h
  obtain ⟨h4, h⟩ := and2 h
  obtain ⟨h5, h⟩ := and2 h
  obtain ⟨h6, h⟩ := and2 h
  obtain ⟨h7, h⟩ := and2 h
  obtain ⟨h9, h10⟩ := and2 h
  refine ⟨⟨?_, notT h2, notT h3, of_decide_eq_true h4, of_decide_eq_true h5, fun x hx => ?_, fun y hy => ?_⟩, of_decide_eq_true h9, of_decide_eq_true h10⟩
  · split at h1
    · assumption
    · cases h1
  · have z := List.all_eq_true.mp h6 x hx
    split at z
    · exact .inl (by assumption)
    · exact .inr (by assumption)
    · cases z
  · have z := List.all_eq_true.mp h7 y hy
    intro q
    rw [q] at z
    cases z
/-- how its arguments come to its parameters: h is a match over so many values, rfl -/
def Row.Bd (r : Row) : Prop := ∀ (kV doc pm : Value) (an : Option Addr) (cdv ct : Value) (us : List Value), us.length = r.ps.length → bindArgs (PySem.W.fnOf r.x r.x (defArgs r.st) (defBody r.st) (defScope r.st) .none kV doc pm an cdv ct) ⟨us, []⟩ = pure (r.ps.zip us)
abbrev FnP (K : PySem.W.Frag) (r : Row) (f : Addr) (fd : FuncData) : Prop := FunD K r.x r.x (defArgs r.st) (defBody r.st) (defScope r.st) [] [] f fd
structure Glb (rows : List Row) (K : PySem.W.Frag) (mg : Str → Option Value) (gl : Str → Option GV) (tbl : Str → Option FnRec) : Prop where
  fns : ∀ x np, gl x = some (.fn np) → ∃ (r : Row) (f : Addr) (fd : FuncData) (n : Nat), r ∈ rows ∧ r.x = x ∧ r.ps.length = np ∧ r.okB = true ∧ tbl x = some r.fr ∧ compFn n gl r.N r.st = some r.fr.body ∧ r.Bd ∧ FnP K r f fd ∧ mg x = some (.ref f)
  con : ∀ x d, gl x = some (.con d) → ∃ u v, mg x = some u ∧ RelV v u ∧ ∀ L H, Rel K L H d v
  blt : ∀ x, gl x = some .blt → mg x = none
theorem start_rel {K : PySem.W.Frag} {L : List Addr} {H : Hp} {ds : List D} {vs : List V} {N : List Str} {np : Nat} (r : Rels K L H ds vs) (hl : ds.length = np) (hle : np ≤ N.length) : SRel K L H (ds.map some ++ List.replicate (N.length - np) none) (start N vs) := by
  have e := r.len
  subst hl
  unfold L2.start
  refine ⟨by simp [e], fun i d h => ?_⟩
  by_cases hi : i < ds.length
  · rw [List.getElem?_append_left (by simpa using hi), List.getElem?_map] at h
    cases q : ds[i]? with
    | none => rw [q] at h; cases h
    | some d' =>
      rw [q] at h
      cases h
      obtain ⟨v, e1, rv⟩ := r.get q
      refine ⟨v, ?_, rv⟩
      rw [List.getElem?_append_left (by rw [List.length_map, ← e]; exact hi), List.getElem?_map, e1]
      rfl
  · rw [List.getElem?_append_right (by simpa using hi)] at h
    have := List.getElem?_replicate (a := (none : Option D)) (n := N.length - ds.length) (i := i - (ds.map some).length)
    rw [this] at h
    split at h <;> cases h
section
variable {P : Program} {w : World} {K : PySem.W.Frag} {mg : Str → Option Value} {base : Heap} {gl : Str → Option GV} {tbl : Str → Option FnRec}
theorem fns_ok {rows : List Row} (G : Glb rows K mg gl tbl) : ∀ (k : Nat) (x : Str) (np : Nat), gl x = some (.fn np) → ∃ f fd ps, ps.length = np ∧ FnOk P w K mg base (L2.CX P w) k f fd ps (spOf K mg ps.length (callK tbl k x)) ∧ (∀ ds h, ds.length ≠ ps.length → callK tbl k x ds h = .stuck) ∧
    mg x = some (.ref f) ∧ PySem.W.keepIn K (.ref f) = true ∧ Binds K fd ps [] ∧ ∃ r ∈ rows, r.x = x ∧ r.ps = ps ∧ r.Bd ∧ FnP K r f fd
  | k, x, np, hx => by
    obtain ⟨r, f, fd, n, mr, rfl, hnp, ok, et, ec, bd, F, em⟩ := G.fns x np hx
    obtain ⟨sc, l1, l2⟩ := Row.scope ok
    have bs : Binds K fd r.ps [] := F.bindsN bd
    refine ⟨f, fd, r.ps, hnp, ?_, ?_, em, F.kp, bs, r, mr, rfl, rfl, bd, F⟩
    · cases k with
      | zero => exact ⟨fun vs H Q E h => h.1, fun A outer s H args us vs Q E _ _ _ _ h => by
          obtain ⟨_, L, h0, ds, _, _, z⟩ := h
          exact z.elim⟩
      | succ k =>
        refine F.ok sc (fun vs H Q E h => h.1) (fun cdv A outer s H vs Q E hr h => ?_)
        obtain ⟨hlen, L, h0, ds, hrl, rs, hp⟩ := h
        let X : Cx := cxOf (L2.CX P w) P w K mg base r.N r.x (defScope r.st) f cdv A outer s H E
        have tk : Takes X (fun cls d _ H => E cls d H) := takes_of rfl rfl rfl rfl
        have S : SdS X (fun cls d _ H => E cls d H) (callK tbl k) { N := r.N, sc := defScope r.st, fn := fun _ => true, gl := gl } := by
          refine ⟨⟨rfl, sc.nd, rfl, rfl, rfl, tk, hr.units, fun y g e => ?_⟩, passes_of rfl, sc.kind⟩
          cases g with
          | con d => exact G.con y d e
          | fn np2 =>
            obtain ⟨f2, fd2, ps2, a1, a2, a3, a4, a5, a6, _⟩ := fns_ok G k y np2 e
            exact ⟨k, f2, fd2, ps2, a1, a2, a3, hr, a4, a5, a6⟩
          | blt => exact G.blt y e
        have B := compSs_ok (compS_ok n) S (defBody r.st) r.fr.body ec
        refine ⟨_, B, L, h0, ds.map some ++ List.replicate (r.fr.nl - r.fr.np) none, hrl, ?_, ?_⟩
        · rw [← l2]
          have le : r.fr.np ≤ r.N.length := by
            rw [← l1]
            have z := congrArg List.length sc.pre
            rw [List.length_take] at z
            omega
          exact start_rel rs (by rw [rs.len, hlen, l1]) le
        · have hp2 : pR K mg L H (fun cv dx _ H' => E cv dx H') [] Q (runFn r.fr (callK tbl k) ds h0) := by
            have z : callK tbl (k + 1) r.x ds h0 = runFn r.fr (callK tbl k) ds h0 := by
              show (match tbl r.x with
                | some r => runFn r (callK tbl k) ds h0
                | none => .stuck) = _
              rw [et]
            rw [← z]
            exact hp
          unfold runFn at hp2
          rw [if_pos (by rw [rs.len, hlen, l1])] at hp2
          cases q : r.fr.body (callK tbl k) (ds.map some ++ List.replicate (r.fr.nl - r.fr.np) none) h0 with
          | nx env h1 =>
            rw [q] at hp2
            exact fun L' H' σ' le kp hr1 _ => gc_ok hrl hp2 L' H' .non le kp hr1 .non
          | rt d h1 =>
            rw [q] at hp2
            exact fun L' H' v le kp hr1 rl => gc_ok hrl hp2 L' H' v le kp hr1 rl
          | exc c d env h1 =>
            rw [q] at hp2
            exact fun L' H' σ' cv dx le kp hr1 _ ex => hp2 L' H' cv dx le kp hr1 ex
          | bk env h1 => rw [q] at hp2; exact hp2.elim
          | ct env h1 => rw [q] at hp2; exact hp2.elim
          | stuck => rw [q] at hp2; exact hp2.elim
    · intro ds h hd
      cases k with
      | zero => rfl
      | succ k =>
        show (match tbl r.x with
          | some r => runFn r (callK tbl k) ds h
          | none => .stuck) = _
        rw [et]
        show runFn r.fr (callK tbl k) ds h = _
        unfold runFn
        rw [if_neg (by rw [← l1]; exact hd)]
end

/-! what stands behind the top: read off the heap -/
def dvB (K : PySem.W.Frag) : Nat → D → Value → Bool
  | _, .non, .none => true
  | _, .bl b, .bool c => b == c
  | _, .int i, .int j _ => decide (i = j)
  | _, .str x, .str y _ => decide (x = y)
  | n + 1, .tup ds, .ref a => (match K.lookup a with
    | some ⟨.type c, _, .seq its _, _⟩ => decide (c = "tuple") && (decide (its.size ≤ sizeLine) && dvs n ds its.toList)
    | _ => false)
  | _, _, _ => false
where dvs (n : Nat) : List D → List Value → Bool
  | [], [] => true
  | d :: ds, u :: us => dvB K n d u && dvs n ds us
  | _, _ => false
theorem dvB_ok {K : PySem.W.Frag} : ∀ (n : Nat) (d : D) (u : Value), dvB K n d u = true → ∃ v, RelV v u ∧ ∀ L H, Rel K L H d v
  | n, .non, u, h => by
    cases n <;> cases u <;> first | exact ⟨.non, rfl, fun _ _ => .non⟩ | cases h
  | n, .bl b, u, h => by
    cases n <;> cases u <;> first
      | (have e := beq_iff_eq.mp (show (b == _) = true from h); subst e; exact ⟨.bl b, rfl, fun _ _ => .bl b⟩)
      | cases h
  | n, .int b, u, h => by
    cases n <;> cases u <;> first
      | (have e := of_decide_eq_true (show decide (b = _) = true from h); subst e; exact ⟨.int b, ⟨_, rfl⟩, fun _ _ => .int b⟩)
      | cases h
  | n, .str b, u, h => by
    cases n <;> cases u <;> first
      | (have e := of_decide_eq_true (show decide (b = _) = true from h); subst e; exact ⟨.str b, ⟨_, rfl⟩, fun _ _ => .str b⟩)
      | cases h
  | 0, .tup ds, u, h => by cases u <;> cases h
  | n + 1, .tup ds, u, h => by
    have ih := dvB_ok (K := K) n
    have go : ∀ (ds : List D) (us : List Value), dvB.dvs K n ds us = true → ∃ vs, Vals vs us ∧ ∀ L H, Rels K L H ds vs := by
      intro ds
      induction ds with
      | nil => intro us h; cases us with
        | nil => exact ⟨[], .nil, fun _ _ => .nil⟩
        | cons _ _ => cases h
      | cons d ds il => intro us h; cases us with
        | nil => cases h
        | cons u us =>
          obtain ⟨h1, h2⟩ := and2 (show (dvB K n d u && dvB.dvs K n ds us) = true from h)
          obtain ⟨v, r, f⟩ := ih d u h1
          obtain ⟨vs, rs, fs⟩ := il us h2
          exact ⟨v :: vs, .cons r rs, fun L H => .cons (f L H) (fs L H)⟩
    cases u with
    | ref a =>
      have h' : (match K.lookup a with
        | some ⟨.type c, _, .seq its _, _⟩ => decide (c = "tuple") && (decide (its.size ≤ sizeLine) && dvB.dvs K n ds its.toList)
        | _ => false) = true := h
      split at h'
      · rename_i c dd its m sl e
        obtain ⟨h1, h2⟩ := and2 h'
        obtain ⟨h3, h4⟩ := and2 h2
        obtain ⟨vs, rs, fs⟩ := go ds its.toList h4
        exact ⟨.ref a, rfl, fun L H => .tup (.inr ⟨_, its, m, e, congrArg Value.type (of_decide_eq_true h1), rfl, of_decide_eq_true h3, rs⟩) (fs L H)⟩
      · cases h'
    | _ => cases h
  | n, .ref i, u, h => by cases n <;> cases u <;> cases h
def Row.dd (r : Row) : He.DefD := ⟨(r.x, none), r.x, r.x, defArgs r.st, defBody r.st, defScope r.st, [], []⟩
/-- the facts, as one Bool -/
def sayB (rows : List Row) (cons : List (Str × D)) (blts : List Str) (K : PySem.W.Frag) : Bool :=
  (rows.all fun r => r.dd.ok K && He.Fa.ok K (.glo r.x)) && ((cons.all fun c => match PySem.W.nsIn K mainGlobals c.1 with
    | some (some u) => dvB K 20 c.2 u
    | _ => false) && blts.all fun x => He.Fa.ok K (.free x))
abbrev AlV : Type := Bool × List He.FnW
def obsV (rows : List Row) (cons : List (Str × D)) (blts : List Str) (K : PySem.W.Frag) : AlV := (sayB rows cons blts K, rows.map fun r => He.fnW K (r.x, none))
def valV (rows : List Row) : AlV := (true, rows.map fun r => r.dd.val)
def SaysV (rows : List Row) (cons : List (Str × D)) (blts : List Str) (K : PySem.W.Frag) : Prop := obsV rows cons blts K = valV rows
def obsVG (n : Nat) (rows : List Row) (cons : List (Str × D)) (blts : List Str) (g : Addr → Option Obj) : AlV := obsV rows cons blts (He.frG g (He.asD g n))
def hookV (n : Nat) (rows : List Row) (cons : List (Str × D)) (blts : List Str) : PySem.W.Hook where
  α := AlV
  obs := fun s => obsVG n rows cons blts s.heap.get?
  val := fun _ => valV rows
  says := fun _ h => ∃ K : PySem.W.Frag, K.In h ∧ SaysV rows cons blts K
  of := fun _ _ e => ⟨_, He.frG_in, e⟩
  keeps := fun _ _ _ ⟨K, hK, c⟩ k => ⟨K, PySem.W.Frag.In.keeps hK k, c⟩
theorem obsVG_eq {n : Nat} {rows : List Row} {cons : List (Str × D)} {blts : List Str} {g : Addr → Option Obj} {s : Shared} (h : ∀ a, g a = s.heap.get? a) : obsVG n rows cons blts g = (hookV n rows cons blts).obs s := by
  have e : g = s.heap.get? := funext h
  rw [e] <;> rfl
section
variable {rows : List Row} {cons : List (Str × D)} {blts : List Str} {K : PySem.W.Frag} {mg : Str → Option Value} {h : Heap}
theorem SaysV.row (c : SaysV rows cons blts K) {r : Row} (m : r ∈ rows) (X : K.In h) (G : h.Ns mainGlobals mg) : ∃ fd, FnP K r (He.ga K r.x) fd ∧ mg r.x = some (.ref (He.ga K r.x)) := by
  have c1 : sayB rows cons blts K = true := congrArg (fun z : AlV => z.1) c
  have c2 : (rows.map fun r => He.fnW K (r.x, none)) = rows.map fun r => r.dd.val := congrArg (fun z : AlV => z.2) c
  obtain ⟨c1, _⟩ := and2 c1
  obtain ⟨k1, k2⟩ := and2 (List.all_eq_true.mp c1 r m)
  obtain ⟨i, hi, e⟩ := List.getElem_of_mem m
  have e2 : rows[i]? = some r := by rw [← e]; exact List.getElem?_eq_getElem hi
  have e3 : (rows.map fun r => He.fnW K (r.x, none))[i]? = (rows.map fun r => r.dd.val)[i]? := by rw [c2]
  rw [List.getElem?_map, List.getElem?_map, e2] at e3
  obtain ⟨fd, F⟩ := He.DefD.funD (d := r.dd) (Option.some.inj e3) k1
  exact ⟨fd, F, He.glo_ok X G k2⟩
theorem SaysV.con (c : SaysV rows cons blts K) {x : Str} {d : D} (m : (x, d) ∈ cons) (X : K.In h) (G : h.Ns mainGlobals mg) : ∃ u v, mg x = some u ∧ RelV v u ∧ ∀ L H, Rel K L H d v := by
  have c1 : sayB rows cons blts K = true := congrArg (fun z : AlV => z.1) c
  obtain ⟨_, c1⟩ := and2 c1
  obtain ⟨c1, _⟩ := and2 c1
  have k := List.all_eq_true.mp c1 _ m
  split at k
  · rename_i u e
    obtain ⟨v, r, f⟩ := dvB_ok 20 d u k
    exact ⟨u, v, PySem.W.mg_of X G e, r, f⟩
  · cases k
theorem SaysV.free (c : SaysV rows cons blts K) {x : Str} (m : x ∈ blts) (X : K.In h) (G : h.Ns mainGlobals mg) : mg x = none := by
  have c1 : sayB rows cons blts K = true := congrArg (fun z : AlV => z.1) c
  obtain ⟨_, c1⟩ := and2 c1
  obtain ⟨_, c1⟩ := and2 c1
  exact He.free_ok X G (List.all_eq_true.mp c1 _ m)
/-- the rows are what the text gives -/
def RowsOk (gl : Str → Option GV) : List Row → Prop
  | [] => True
  | r :: rs => (r.okB = true ∧ compFn 60 gl r.N r.st = some r.fr.body ∧ r.Bd) ∧ RowsOk gl rs
theorem RowsOk.mem {gl : Str → Option GV} : ∀ {rows : List Row}, RowsOk gl rows → ∀ r ∈ rows, r.okB = true ∧ compFn 60 gl r.N r.st = some r.fr.body ∧ r.Bd
  | r :: rs, h, q, m => by
    rcases List.mem_cons.mp m with rfl | m
    · exact h.1
    · exact h.2.mem q m
def glOf (names : List (Str × Nat)) (cons : List (Str × D)) (blts : List Str) (x : Str) : Option GV :=
  if blts.contains x = true then some .blt else match names.lookup x with
    | some np => some (.fn np)
    | none => (cons.lookup x).map .con
def tblOf (names : List (Str × FnRec)) (x : Str) : Option FnRec := names.lookup x
theorem lookup_mem {α : Type} : ∀ {l : List (Str × α)} {x : Str} {a : α}, l.lookup x = some a → (x, a) ∈ l
  | (y, b) :: l, x, a, h => by
    rw [List.lookup_cons] at h
    split at h
    · rename_i e
      cases h
      rw [beq_iff_eq.mp e]
      exact List.mem_cons_self ..
    · exact List.mem_cons_of_mem _ (lookup_mem h)
theorem glb_of (c : SaysV rows cons blts K) (X : K.In h) (G : h.Ns mainGlobals mg) {names : List (Str × Nat)} (en : rows.map (fun r => (r.x, r.ps.length)) = names) (ok : RowsOk (glOf names cons blts) rows) :
    Glb rows K mg (glOf names cons blts) (tblOf (rows.map fun r => (r.x, r.fr))) where
  fns := fun x np e => by
    unfold glOf at e
    split at e
    · cases e
    · split at e
      · rename_i np' e1
        cases e
        rw [← en] at e1
        -- the first row of that name
        have find : ∀ (l : List Row), (l.map fun r => (r.x, r.ps.length)).lookup x = some np → ∃ r ∈ l, r.x = x ∧ r.ps.length = np ∧ (l.map fun r => (r.x, r.fr)).lookup x = some r.fr := by
          intro l
          induction l with
          | nil => intro h; cases h
          | cons r l il =>
            intro h
            rw [List.map_cons, List.lookup_cons] at h
            split at h
            · rename_i e
              cases h
              have ex := beq_iff_eq.mp e
              refine ⟨r, List.mem_cons_self .., ex.symm, rfl, ?_⟩
              rw [List.map_cons, List.lookup_cons, e]
            · rename_i e
              obtain ⟨q, m, h1, h2, h3⟩ := il h
              refine ⟨q, List.mem_cons_of_mem _ m, h1, h2, ?_⟩
              rw [List.map_cons, List.lookup_cons, e]
              exact h3
        obtain ⟨r, m, h1, h2, h3⟩ := find rows e1
        obtain ⟨o1, o2, o3⟩ := ok.mem r m
        obtain ⟨fd, F, em⟩ := c.row m X G
        exact ⟨r, _, fd, 60, m, h1, h2, o1, h3, o2, o3, F, by rw [← h1]; exact em⟩
      · obtain ⟨d, e1, e2⟩ := map_some e
        cases e2
  con := fun x d e => by
    unfold glOf at e
    split at e
    · cases e
    · split at e
      · cases e
      · obtain ⟨d', e1, e2⟩ := map_some e
        cases e2
        exact c.con (lookup_mem e1) X G
  blt := fun x e => by
    unfold glOf at e
    split at e
    · rename_i z
      exact c.free (by simpa using z) X G
    · split at e
      · cases e
      · obtain ⟨d', e1, e2⟩ := map_some e
        cases e2
end
/-- THE END: the law's def gives True by ours -/
theorem law_end {P : Program} {w : World} {rows : List Row} {cons : List (Str × D)} {blts : List Str} {K : PySem.W.Frag} {mg : Str → Option Value} {h : Heap} {names : List (Str × Nat)} {fa : Addr} {k : Nat} (c : SaysV rows cons blts K) (X : K.In h) (G : h.Ns mainGlobals mg)
    (en : rows.map (fun r => (r.x, r.ps.length)) = names) (ok : RowsOk (glOf names cons blts) rows) (lw : glOf names cons blts "law" = some (.fn 1)) (x : Str) (hx : ∀ r ∈ rows, r.x = "law" → r.ps = [x]) (hfa : mg ("law" : Str) = some (.ref fa))
    (true_ : ∀ ns : List Int, ns.length ≤ 63 → ∃ h', callK (tblOf (rows.map fun r => (r.x, r.fr))) k "law" [.ref 0] [.ro (ns.map .int)] = .ok (.bl true) h') :
    ∃ (fd : FuncData) (sp : Sp), (∀ (s : Shared) (u : Value), BindsTo s fd ⟨[u], []⟩ [(x, u)]) ∧ (∀ (H : Hp) (a : Addr) (ns : List Int), ns.length ≤ 63 → Only H → SqL K H a (ns.map V.int) → sp [.ref a] H (fun v _ => v = .bl true) fun _ _ _ => False) ∧
      ∀ base : Heap, K.In base → base.Ns mainGlobals mg → FnOk P w K mg base (L2.CX P w) k fa fd [x] sp := by
  have Gl := glb_of c X G en ok
  obtain ⟨f0, fd0, ps0, _, _, _, em0, _, _, r, mr, rx, rp, bd, F⟩ := fns_ok (P := P) (w := w) (base := h) Gl k "law" 1 lw
  have e1 : r.ps = [x] := hx r mr rx
  refine ⟨fd0, spOf K mg 1 (callK (tblOf (rows.map fun r => (r.x, r.fr))) k "law"), fun s u => ?_, fun H a ns hl hO hS => ?_, fun base _ _ => ?_⟩
  · have z := FunD.bindsA F bd s [u] (by rw [e1]; rfl)
    rw [e1] at z
    exact z
  · refine ⟨rfl, [a], [.ro (ns.map .int)], [.ref 0], ⟨rfl, fun i b ds e1 e2 => ?_, fun i b ds e1 e2 => ?_, fun i j b ds es e1 _ _ _ => ?_⟩, .cons (.ref rfl) .nil, ?_⟩
    · cases i with
      | zero => cases e1
      | succ i => simp at e1
    · cases i with
      | zero =>
        cases e1
        cases e2
        refine ⟨ns.map V.int, ?_, ?_⟩
        · rcases hS with (hS | ⟨o, hS⟩) | hS
          · rcases hO a with z | ⟨o, xs, z⟩
            · rw [z] at hS; cases hS
            · rw [z] at hS; cases hS
          · exact .inl ⟨o, hS⟩
          · exact .inr hS
        · clear hl hS
          induction ns with
          | nil => exact .nil
          | cons n ns il => exact .cons (.int n) il
      | succ i => simp at e1
    · cases i with
      | zero => cases e1
      | succ i => simp at e1
    · obtain ⟨h', e⟩ := true_ ns hl
      rw [e]
      intro L' H' v _ _ _ rl
      cases rl
      rfl
  · obtain ⟨f, fd, ps, a1, a2, a3, a4, a5, a6, r', mr', rx', rp', bd', F'⟩ := fns_ok (P := P) (w := w) (base := base) Gl k "law" 1 lw
    have e2 : r'.ps = [x] := hx r' mr' rx'
    rw [← rp', e2] at a2
    have e3 : f = fa := by
      rw [hfa] at a4
      cases a4
      rfl
    have e4 : f0 = fa := by
      rw [hfa] at em0
      cases em0
      rfl
    subst e3
    have e5 : fd = fd0 := by
      obtain ⟨oc, od, dV, kV, doc, pm, an, cdv, ct, osl, q1, q2, _⟩ := F.ex
      obtain ⟨oc', od', dV', kV', doc', pm', an', cdv', ct', osl', q1', q2', _⟩ := F'.ex
      rw [e4, q2'] at q2
      cases q2
      rfl
    rw [← e5]
    exact a2
/-- the law, walked: what F tells of each world -/
theorem walkV {l : PySem.W.OpenLaw} {n k : Nat} {q : Program} {loose : List Str} {XP : (Str → Option Value) → Heap → Prop} {YP : World → Heap → Prop} {d : DefRec} {x : Str} (e1 : l.most = some n) (e2 : n ≤ sizeLine) (e3 : d.params.defaults = []) (rm : Room k callerA)
    (F : ∀ (w : World) (mg : Str → Option Value) (fa : Addr) (h : Heap), YP w h → h.Ns mainGlobals mg → mg d.name = some (.ref fa) → ∃ K : PySem.W.Frag, K.In h ∧ ∃ (fd : FuncData) (sp : Sp), (∀ (s : Shared) (u : Value), BindsTo s fd ⟨[u], []⟩ [(x, u)]) ∧
      (∀ (H : Hp) (a : Addr) (ns : List Int), ns.length ≤ n → Only H → SqL K H a (ns.map V.int) → sp [.ref a] H (fun v _ => v = .bl true) fun _ _ _ => False) ∧ ∀ base : Heap, K.In base → base.Ns mainGlobals mg → FnOk l.prog w K mg base (L2.CX l.prog w) k fa fd [x] sp) :
    PySem.W.WalkO q loose XP YP l.row.toRowW d [] (fun f vs => PySem.call f vs) := by
  apply Att.attach_call e1 e3
  intro w s0 s1 mg mb fa o pm cd doc a vs ns G Y _ _ _ eg eo ei el gn
  obtain ⟨K, kin, fd, sp, h1, h2, h3⟩ := F w mg fa _ Y G.T.g eg
  refine law_call kin G.T.g G.T.b G.T.builtins G.T.nolimit gn eo ei (Nat.le_trans el e2) rm h3 h1 (fun H only sq => h2 H a ns el only sq) ?_
  intro H e s' z
  obtain ⟨_, _, _, _, _, _, _, _, _, _, _, _, z⟩ := z
  exact z.elim
end VM

set_option maxRecDepth 100000
set_option maxHeartbeats 0
namespace VM
open PySem L2
/-! the heap at a def's end -/
theorem sameOrGr_of {h h' : Hv} (hs : ∀ i, i < h.length → h'[i]? = h[i]? ∨ ∃ o, h'[i]? = some o ∧ o.gr = true) : sameOrGr h h' = true := by
  rw [sameOrGr, List.all_eq_true]
  intro i hi
  rw [List.mem_range] at hi
  rcases hs i hi with e | ⟨o, e, g⟩
  · simp [e]
  · simp [e, g]
theorem gc_gr {h h1 g : Hv} {d : D} (hl : h1.length = h.length) (hs : ∀ i, i < h.length → h1[i]? = h[i]? ∨ ∃ o, h1[i]? = some o ∧ o.gr = true) (hd : d.gr = true) : gc h d (h1 ++ g) = .ok d h1 := by
  have e : sameOrGr h (h1 ++ g) = true := sameOrGr_of fun i hi => by
    rw [List.getElem?_append_left (by omega)]
    exact hs i hi
  unfold gc
  rw [if_pos ⟨by simp [hl], e⟩, if_pos hd, ← hl, List.take_left']
  rfl
theorem gc_app {h g : Hv} {d : D} (hd : d.gr = true) : gc h d (h ++ g) = .ok d h := gc_gr rfl (fun _ _ => .inl rfl) hd
theorem gc_same {h : Hv} {d : D} : gc h d h = .ok d h := by
  by_cases hd : d.gr = true
  · have := gc_app (h := h) (g := []) hd
    rwa [List.append_nil] at this
  · unfold gc
    split
    · split
      · rename_i i
        split
        · rename_i ds e
          rw [if_neg]
          intro ⟨h1, _⟩
          have := (List.getElem?_eq_some_iff.1 e).1
          omega
        · rfl
      · rfl
    · rfl
theorem gc_ref {h h1 g : Hv} {i : Nat} {ds : List D} (hl : h1.length = h.length) (hs : ∀ i, i < h.length → h1[i]? = h[i]? ∨ ∃ o, h1[i]? = some o ∧ o.gr = true) (hi : g[i]? = some (.lst ds)) (hd : D.grs ds = true) : gc h (.ref (h.length + i)) (h1 ++ g) = .ok (.ref h.length) (h1 ++ [.lst ds]) := by
  have e : sameOrGr h (h1 ++ g) = true := sameOrGr_of fun i hi => by
    rw [List.getElem?_append_left (by omega)]
    exact hs i hi
  have e2 : (h1 ++ g)[h.length + i]? = some (.lst ds) := by
    rw [List.getElem?_append_right (by omega), ← hi]
    congr 1
    omega
  unfold gc
  rw [if_pos ⟨by simp [hl], e⟩, if_neg (by simp [D.gr])]
  simp only [e2]
  rw [if_pos ⟨by omega, hd⟩, ← hl, List.take_left']
  rfl
/-! a list of our own in the midst of the heap -/
def hp (h0 : Hv) (pen : List D) (g : Hv) : Hv := h0 ++ .lst pen :: g
@[simp] theorem hp_len (h0 pen g) : (hp h0 pen g).length = h0.length + 1 + g.length := by simp [hp]; omega
@[simp] theorem hp_app (h0 pen g g') : hp h0 pen g ++ g' = hp h0 pen (g ++ g') := by simp [hp]
@[simp] theorem hp_get (h0 pen g) : (hp h0 pen g)[h0.length]? = some (.lst pen) := by simp [hp]
@[simp] theorem hp_get1 (h0 pen g k) : (hp h0 pen g)[h0.length + 1 + k]? = g[k]? := by
  rw [hp, List.getElem?_append_right (by omega), show h0.length + 1 + k - h0.length = k + 1 by omega]; rfl
@[simp] theorem hp_set (h0 pen pen' g) : (hp h0 pen g).set h0.length (.lst pen') = hp h0 pen' g := by
  simp [hp, List.set_append]
@[simp] theorem hp_set1 (h0 pen g k o) : (hp h0 pen g).set (h0.length + 1 + k) o = hp h0 pen (g.set k o) := by
  rw [hp, List.set_append_right _ _ (by omega), show h0.length + 1 + k - h0.length = k + 1 by omega]; rfl
theorem hp_old {h0 pen g} {i : Nat} {o : Ob} (h : h0[i]? = some o) : (hp h0 pen g)[i]? = some o := by
  rw [hp, List.getElem?_append_left (List.getElem?_eq_some_iff.1 h).1, h]
theorem gc_hp {h0 pen pen' g g' d} (hd : D.gr d = true) (hpn : D.grs pen' = true) : gc (hp h0 pen g) d (hp h0 pen' (g ++ g')) = .ok d (hp h0 pen' g) := by
  rw [← hp_app]
  refine gc_gr (by simp) (fun i hi => ?_) hd
  rcases Nat.lt_trichotomy i h0.length with h | h | h
  · left; rw [hp, hp, List.getElem?_append_left h, List.getElem?_append_left h]
  · right; exact ⟨.lst pen', by rw [h]; exact hp_get .., hpn⟩
  · left
    obtain ⟨k, rfl⟩ : ∃ k, i = h0.length + 1 + k := ⟨i - (h0.length + 1), by omega⟩
    rw [hp_get1, hp_get1]
theorem gc_hp0 {h0 pen pen' g d} (hd : D.gr d = true) (hpn : D.grs pen' = true) : gc (hp h0 pen g) d (hp h0 pen' g) = .ok d (hp h0 pen' g) := by
  have := gc_hp (h0 := h0) (pen := pen) (g := g) (g' := []) hd hpn
  rwa [List.append_nil] at this
/-! amounts -/
def am (q : Rat) : D := .tup [.int q.num, .int q.den]
@[simp] theorem am_gr (q) : (am q).gr = true := rfl
theorem am_inj {a b : Rat} (h : am a = am b) : a = b := by
  simp only [am, D.tup.injEq, List.cons.injEq, D.int.injEq, and_true] at h
  exact Rat.ext h.1 (by omega)
theorem callK_eq {T : Str → Option FnRec} {k : Nat} {f : Str} {args : List D} {h : Hv} {r : FnRec} (hr : T f = some r) : callK T (k + 1) f args h = runFn r (callK T k) args h := by simp only [callK, hr]
theorem gcd_step (a b : Int) : Int.gcd a b = Int.gcd b (a % b) := by
  apply Nat.dvd_antisymm
  · apply Int.dvd_gcd
    · exact Int.gcd_dvd_right ..
    · rw [Int.emod_def]
      exact Int.dvd_sub (Int.gcd_dvd_left ..) (Int.dvd_mul_of_dvd_left (Int.gcd_dvd_right ..))
  · apply Int.dvd_gcd
    · have := Int.mul_ediv_add_emod a b
      rw [← this]
      exact Int.dvd_add (Int.dvd_mul_of_dvd_left (Int.gcd_dvd_left ..)) (by rw [this]; exact Int.gcd_dvd_right ..)
    · exact Int.gcd_dvd_left ..
/-- one walk through Euclid's steps -/
theorem euclid_loop (C : Or) (c : EF) (body : SF) (h : Hv)
    (hc : ∀ a b : Int, c C [some (.int a), some (.int b)] h = .ok (.bl (decide (0 < b))) h)
    (hb : ∀ a b : Int, 0 < b → body C [some (.int a), some (.int b)] h = .nx [some (.int b), some (.int (a % b))] h) :
    ∀ (n : Nat) (a b : Int) (m : Nat), 0 ≤ a → 0 ≤ b → b < 2 ^ n → 2 * n + 1 ≤ m →
      whileL C c body m [some (.int a), some (.int b)] h = .nx [some (.int (Int.gcd a b)), some (.int 0)] h := by
  have step : ∀ (m : Nat) (a b : Int), 0 < b → whileL C c body (m + 1) [some (.int a), some (.int b)] h = whileL C c body m [some (.int b), some (.int (a % b))] h := by
    intro m a b h0
    rw [whileL, hc a b]
    simp [R.thenS, h0, hb a b h0]
  have stop : ∀ (m : Nat) (a : Int), 0 ≤ a → whileL C c body (m + 1) [some (.int a), some (.int 0)] h = .nx [some (.int (Int.gcd a 0)), some (.int 0)] h := by
    intro m a h0
    rw [whileL, hc a 0]
    simp [R.thenS]
    omega
  intro n
  induction n with
  | zero =>
    intro a b m ha hb0 hb1 hm
    obtain rfl : b = 0 := by simp at hb1; omega
    obtain ⟨m, rfl⟩ : ∃ m', m = m' + 1 := ⟨m - 1, by omega⟩
    exact stop m a ha
  | succ n ih =>
    intro a b m ha hb0 hb1 hm
    obtain ⟨m, rfl⟩ : ∃ m', m = m' + 3 := ⟨m - 3, by omega⟩
    by_cases h0 : b = 0
    · subst h0; exact stop _ a ha
    · have h0 : 0 < b := by omega
      rw [step _ a b h0]
      have hr0 : 0 ≤ a % b := Int.emod_nonneg _ (by omega)
      have hr1 : a % b < b := Int.emod_lt_of_pos _ h0
      have e1 : Int.gcd a b = Int.gcd b (a % b) := by exact gcd_step a b
      rw [e1]
      by_cases h1 : a % b = 0
      · rw [h1]; exact stop _ b hb0
      · have h1 : 0 < a % b := by omega
        rw [step _ b (a % b) h1]
        have e2 : Int.gcd b (a % b) = Int.gcd (a % b) (b % (a % b)) := by exact gcd_step b (a % b)
        rw [e2]
        have hs0 : 0 ≤ b % (a % b) := Int.emod_nonneg _ (by omega)
        have hs1 : b % (a % b) < a % b := Int.emod_lt_of_pos _ h1
        refine ih _ _ _ hr0 hs0 ?_ (by omega)
        have q1 : 1 ≤ b / (a % b) := by
          rw [Int.le_ediv_iff_mul_le h1]; omega
        have e3 := Int.mul_ediv_add_emod b (a % b)
        have q2 : a % b * 1 ≤ a % b * (b / (a % b)) := Int.mul_le_mul_of_nonneg_left q1 hr0
        rw [Int.pow_succ] at hb1
        omega
theorem mk_am (n : Int) (d : Nat) (hd : d ≠ 0) : D.tup [.int (n / (Int.gcd (if n < 0 then -n else n) d : Nat)), .int ((d : Int) / (Int.gcd (if n < 0 then -n else n) d : Nat))] = am (mkRat n d) := by
  have e : Int.gcd (if n < 0 then -n else n) d = d.gcd n.natAbs := by
    rw [Int.gcd_comm]
    split <;> simp [Int.gcd]
  rw [e, am, Rat.num_mkRat, Rat.den_mkRat, if_neg hd, if_neg hd]
  simp
end VM

set_option maxRecDepth 100000
set_option maxHeartbeats 0
namespace VM
open PySem L2
/-! how a term is worked out, one construct at a time -/
section
variable (C : Or) (env : Env) (h : Hv)
@[simp] theorem bind_ok {α β : Type} (a : α) (f : α → Hv → R β) : (R.ok a h).bind f = f a h := rfl
@[simp] theorem thenS_ok (a : D) (f : D → Hv → SR) : (R.ok a h).thenS env f = f a h := rfl
@[simp] theorem thenI_ok (a : List D × Guards) (f : List D × Guards → Hv → SR) : (R.ok a h).thenI env f = f a h := rfl
def bm {α : Type} (x : D) (a b s : α) : α := match x with
  | .bl true => a
  | .bl false => b
  | _ => s
@[simp] theorem bm_bl {α : Type} (x : Bool) (a b s : α) : bm (.bl x) a b s = if x = true then a else b := by cases x <;> rfl
def SR.nxt (r : SR) (f : Env → Hv → SR) : SR := match r with
  | .nx e h => f e h
  | r => r
@[simp] theorem nxt_nx (f : Env → Hv → SR) : (SR.nx env h).nxt f = f env h := rfl
@[simp] theorem nxt_rt (d : D) (f : Env → Hv → SR) : (SR.rt d h).nxt f = .rt d h := rfl
@[simp] theorem nxt_ite (p : Prop) [Decidable p] (a b : SR) (f : Env → Hv → SR) : (if p then a else b).nxt f = if p then a.nxt f else b.nxt f := by split <;> rfl
theorem u_var (i : Nat) : varF i C env h = (match env[i]? with
  | some (some d) => .ok d h
  | _ => .stuck) := rfl
@[simp] theorem u_con (d : D) : conF d C env h = .ok d h := rfl
@[simp] theorem u_un1 (op a) : un1F op a C env h = (a C env h).bind op := rfl
@[simp] theorem u_bin (op a b) : binF op a b C env h = (a C env h).bind fun x h1 => (b C env h1).bind fun y h2 => op x y h2 := rfl
@[simp] theorem u_and (a b) : andF a b C env h = (a C env h).bind fun x h1 => bm x (b C env h1) (.ok (.bl false) h1) .stuck := by
  simp only [andF, bm]; try congr
@[simp] theorem u_or (a b) : orF a b C env h = (a C env h).bind fun x h1 => bm x (.ok (.bl true) h1) (b C env h1) .stuck := by
  simp only [orF, bm]; try congr
@[simp] theorem u_chain (op op' a b c) : chainF op op' a b c C env h = (a C env h).bind fun x h1 => (b C env h1).bind fun y h2 => (op x y h2).bind fun z h3 => bm z ((c C env h3).bind fun w h4 => op' y w h4) (.ok (.bl false) h3) .stuck := by
  simp only [chainF, bm]; try congr
@[simp] theorem u_ite (c a b) : iteF c a b C env h = (c C env h).bind fun x h1 => bm x (a C env h1) (b C env h1) .stuck := by
  simp only [iteF, bm]; try congr
@[simp] theorem u_list0 : listF [] C env h = .ok [] h := rfl
@[simp] theorem u_list (e es) : listF (e :: es) C env h = (e C env h).bind fun x h1 => (listF es C env h1).bind fun xs h2 => .ok (x :: xs) h2 := rfl
@[simp] theorem u_tup (es) : tupF es C env h = (listF es C env h).bind fun ds h1 => if ds.length ≤ 1000000 then .ok (.tup ds) h1 else .stuck := rfl
@[simp] theorem u_lst (es) : lstF es C env h = (listF es C env h).bind fun ds h1 => if ds.length ≤ 1000000 then .ok (.ref h1.length) (h1 ++ [.lst ds]) else .stuck := rfl
@[simp] theorem u_call (f es) : callF f es C env h = (listF es C env h).bind fun ds h1 => C f ds h1 := rfl
@[simp] theorem u_blt (g es) : bltF g es C env h = (listF es C env h).bind g := rfl
@[simp] theorem u_opt0 : optF none C env h = .ok none h := rfl
def im {α : Type} (x : D) (f : Int → α) (s : α) : α := match x with
  | .int i => f i
  | _ => s
@[simp] theorem im_int {α : Type} (i : Int) (f : Int → α) (s : α) : im (.int i) f s = f i := rfl
@[simp] theorem u_opt (e) : optF (some e) C env h = (e C env h).bind fun x h1 => im x (fun i => .ok (some i) h1) .stuck := by
  simp only [optF, im]; try congr
@[simp] theorem u_slc (op a lo hi) : slcF op a lo hi C env h = (a C env h).bind fun x h1 => (optF lo C env h1).bind fun l h2 => (optF hi C env h2).bind fun u h3 => op x l u h3 := rfl
def om {α β : Type} (x : Option α) (f : α → β) (s : β) : β := match x with
  | some a => f a
  | none => s
@[simp] theorem om_some {α β : Type} (a : α) (f : α → β) (s : β) : om (some a) f s = f a := rfl
@[simp] theorem u_nm (i d) : nmT i d env h = if i < env.length then some (env.set i (some d)) else none := rfl
@[simp] theorem u_tgs0 : tgsT [] [] env h = some env := rfl
@[simp] theorem u_tgs (t ts d ds) : tgsT (t :: ts) (d :: ds) env h = om (t d env h) (fun e => tgsT ts ds e h) none := by
  simp only [tgsT, om]; all_goals (cases t d env h <;> rfl)
@[simp] theorem u_tupT (ts ds) : tupT ts (.tup ds) env h = tgsT ts ds env h := rfl
@[simp] theorem u_nx : nxS C env h = .nx env h := rfl
@[simp] theorem u_bk : bkS C env h = .bk env h := rfl
@[simp] theorem u_ct : ctS C env h = .ct env h := rfl
@[simp] theorem u_seq (a b : SF) : seqS a b C env h = (a C env h).nxt (b C) := by
  unfold seqS SR.nxt; cases a C env h <;> rfl
@[simp] theorem u_exp (e) : expS e C env h = (e C env h).thenS env fun _ h1 => .nx env h1 := rfl
@[simp] theorem u_asg (t e) : asgS t e C env h = (e C env h).thenS env fun d h1 => om (t d env h1) (fun e1 => .nx e1 h1) .stuck := by
  unfold asgS; congr; funext d h1; cases t d env h1 <;> rfl
@[simp] theorem u_setS (o i e) : setS o i e C env h = (e C env h).thenS env fun d h1 => (o C env h1).thenS env fun x h2 => (i C env h2).thenS env fun k h3 => om (setL x k d h3) (fun h4 => .nx env h4) .stuck := by
  unfold setS; congr; funext d h1; congr; funext x h2; congr; funext k h3; cases setL x k d h3 <;> rfl
@[simp] theorem u_par (i j a b) : parS i j a b C env h = (a C env h).thenS env fun x h1 => (b C env h1).thenS env fun y h2 => if i < env.length ∧ j < env.length then .nx ((env.set i (some x)).set j (some y)) h2 else .stuck := rfl
@[simp] theorem u_ret (e) : retS e C env h = (e C env h).thenS env fun d h1 => .rt d h1 := rfl
@[simp] theorem u_if (c a b) : ifS c a b C env h = (c C env h).thenS env fun x h1 => bm x (a C env h1) (b C env h1) .stuck := by
  simp only [ifS, bm]; try congr
@[simp] theorem u_for (it tg body) : forS it tg body C env h = (it C env h).thenI env fun z h1 => forL C tg body z.2 z.1 env h1 := rfl
/-! operators -/
variable (i j : Int) (a b c d e f : D) (as : List D)
@[simp] theorem u_add : opAdd (.int i) (.int j) h = .ok (.int (i + j)) h := rfl
@[simp] theorem u_addT (xs ys) : opAdd (.tup xs) (.tup ys) h = if xs.length + ys.length ≤ 1000000 then .ok (.tup (xs ++ ys)) h else .stuck := rfl
@[simp] theorem u_sub : opSub (.int i) (.int j) h = .ok (.int (i - j)) h := rfl
@[simp] theorem u_neg : opNeg (.int i) h = .ok (.int (-i)) h := rfl
@[simp] theorem u_not (x : Bool) : opNot (.bl x) h = .ok (.bl (!x)) h := rfl
@[simp] theorem u_lt : opLt (.int i) (.int j) h = .ok (.bl (decide (i < j))) h := rfl
@[simp] theorem u_le : opLe (.int i) (.int j) h = .ok (.bl (decide (i ≤ j))) h := rfl
@[simp] theorem u_gt : opGt (.int i) (.int j) h = .ok (.bl (decide (j < i))) h := rfl
@[simp] theorem u_ge : opGe (.int i) (.int j) h = .ok (.bl (decide (j ≤ i))) h := rfl
theorem mul_s {i j : Int} {h : Hv} (hi : i.natAbs < big64) : opMul (.int i) (.int j) h = .ok (.int (i * j)) h := by
  simp only [opMul]; rw [if_pos (.inl hi)]
theorem mul_t {i j : Int} {h : Hv} (hi : j.natAbs < big64) : opMul (.int i) (.int j) h = .ok (.int (i * j)) h := by
  simp only [opMul]; rw [if_pos (.inr (.inl hi))]
theorem mul_m {i j : Int} {h : Hv} (hi : i.natAbs < bigM) (hj : j.natAbs < bigM) : opMul (.int i) (.int j) h = .ok (.int (i * j)) h := by
  simp only [opMul]; rw [if_pos (.inr (.inr ⟨hi, hj⟩))]
theorem fdiv_ok {i j : Int} {h : Hv} (h0 : 0 < j) (h1 : j.natAbs < bigD) : opFdiv (.int i) (.int j) h = .ok (.int (i / j)) h := by
  simp only [opFdiv]; rw [if_pos ⟨h0, h1⟩]
theorem mod_ok {i j : Int} {h : Hv} (h0 : 0 < j) : opMod (.int i) (.int j) h = .ok (.int (i % j)) h := by
  simp only [opMod]; rw [if_pos h0]
theorem at_nat {α : Type} {xs : List α} {k : Nat} : atI xs (k : Int) = xs[k]? := by
  unfold atI ixN
  rw [if_pos (by omega)]
  split
  · simp
  · simp; omega
theorem ix_tup (ds) : opIx (.tup ds) (.int i) h = om (atI ds i) (fun d => .ok d h) .stuck := by
  simp only [opIx, seqOf, om]; all_goals (cases atI ds i <;> rfl)
theorem ix_ref (p ds) (hp : h[p]? = some (.lst ds)) : opIx (.ref p) (.int i) h = om (atI ds i) (fun d => .ok d h) .stuck := by
  simp only [opIx, seqOf, hp, om]; all_goals (cases atI ds i <;> rfl)
theorem ix_ro (p ds) (hp : h[p]? = some (.ro ds)) : opIx (.ref p) (.int i) h = om (atI ds i) (fun d => .ok d h) .stuck := by
  simp only [opIx, seqOf, hp, om]; all_goals (cases atI ds i <;> rfl)
@[simp] theorem at0 {α : Type} (a : α) (as : List α) : atI (a :: as) 0 = some a := at_nat (k := 0)
@[simp] theorem at1 {α : Type} (a b : α) (as : List α) : atI (a :: b :: as) 1 = some b := at_nat (k := 1)
@[simp] theorem at2 {α : Type} (a b c : α) (as : List α) : atI (a :: b :: c :: as) 2 = some c := at_nat (k := 2)
@[simp] theorem at3 {α : Type} (a b c d : α) (as : List α) : atI (a :: b :: c :: d :: as) 3 = some d := at_nat (k := 3)
@[simp] theorem at4 {α : Type} (a b c d e : α) (as : List α) : atI (a :: b :: c :: d :: e :: as) 4 = some e := at_nat (k := 4)
@[simp] theorem at5 {α : Type} (a b c d e f : α) (as : List α) : atI (a :: b :: c :: d :: e :: f :: as) 5 = some f := at_nat (k := 5)
theorem at_last {α : Type} (xs : List α) (x : α) : atI (xs ++ [x]) (-1) = some x := by
  unfold atI ixN
  rw [if_neg (by omega), if_pos (by simp; omega)]
  simp
  rw [show ((-1 : Int) + (xs.length + 1)).toNat = xs.length by omega]
  simp
@[simp] theorem ix_tup0 : opIx (.tup (a :: as)) (.int 0) h = .ok a h := by simp [ix_tup]
@[simp] theorem ix_tup1 : opIx (.tup (a :: b :: as)) (.int 1) h = .ok b h := by simp [ix_tup]
@[simp] theorem ix_tup2 : opIx (.tup (a :: b :: c :: as)) (.int 2) h = .ok c h := by simp [ix_tup]
@[simp] theorem ix_tup3 : opIx (.tup (a :: b :: c :: d :: as)) (.int 3) h = .ok d h := by simp [ix_tup]
@[simp] theorem ix_tup4 : opIx (.tup (a :: b :: c :: d :: e :: as)) (.int 4) h = .ok e h := by simp [ix_tup]
@[simp] theorem ix_tup5 : opIx (.tup (a :: b :: c :: d :: e :: f :: as)) (.int 5) h = .ok f h := by simp [ix_tup]
@[simp] theorem ix_am0 (q : Rat) : opIx (am q) (.int 0) h = .ok (.int q.num) h := by simp [am]
@[simp] theorem ix_am1 (q : Rat) : opIx (am q) (.int 1) h = .ok (.int q.den) h := by simp [am]
@[simp] theorem u_abs : bAbs [.int i] h = .ok (.int (if i < 0 then -i else i)) h := rfl
@[simp] theorem u_int : bInt [.int i] h = .ok (.int i) h := rfl
@[simp] theorem u_intb (x : Bool) : bInt [.bl x] h = .ok (.int (if x then 1 else 0)) h := rfl
@[simp] theorem u_max : bMax [.int i, .int j] h = .ok (.int (if j > i then j else i)) h := rfl
@[simp] theorem u_min : bMin [.int i, .int j] h = .ok (.int (if j < i then j else i)) h := rfl
@[simp] theorem u_tuple (ds) : bTuple [.tup ds] h = .ok (.tup ds) h := rfl
theorem u_tuplel {p ds} {h : Hv} (hp : h[p]? = some (.lst ds)) : bTuple [.ref p] h = .ok (.tup ds) h := by simp [bTuple, seqOf, hp]
@[simp] theorem u_listt (ds) : bList [.tup ds] h = .ok (.ref h.length) (h ++ [.lst ds]) := rfl
@[simp] theorem u_lent (ds) : bLen [.tup ds] h = .ok (.int ds.length) h := rfl
theorem u_lenl {p ds} {h : Hv} (hp : h[p]? = some (.lst ds)) : bLen [.ref p] h = .ok (.int ds.length) h := by simp [bLen, seqOf, hp]
theorem u_lenr {p ds} {h : Hv} (hp : h[p]? = some (.ro ds)) : bLen [.ref p] h = .ok (.int ds.length) h := by simp [bLen, seqOf, hp]
theorem intsD_map (ns : List Int) : intsD (ns.map .int) = some ns := by
  induction ns with
  | nil => rfl
  | cons n ns ih => simp [intsD, ih]
theorem u_sum {p : Nat} {ns : List Int} {h : Hv} (hp : h[p]? = some (.lst (ns.map .int))) : bSum [.ref p] h = .ok (.int ns.sum) h := by
  simp [bSum, lstAt, hp, intsD_map]
theorem setL_ok {p ds k d} {h : Hv} (hp : h[p]? = some (.lst ds)) (hk : k < ds.length) : setL (.ref p) (.int (k : Nat)) d h = some (h.set p (.lst (ds.set k d))) := by
  have e : ixN ds.length (k : Int) = some k := by unfold ixN; rw [if_pos (by omega), if_pos (by omega)]; simp
  simp [setL, hp, e]
end
theorem run_eq (r : FnRec) (C : Or) (args : List D) (h : Hv) (hn : args.length = r.np) : runFn r C args h = (match r.body C (args.map some ++ List.replicate (r.nl - r.np) none) h with
    | .nx _ h' => gc h .non h'
    | .rt d h' => gc h d h'
    | .exc c d _ h' => .exc c d h'
    | _ => .stuck) := by rw [runFn, if_pos hn]; try rfl
theorem run_rt {r : FnRec} {C : Or} {args : List D} {h h' : Hv} {d : D} (hn : args.length = r.np) (hb : r.body C (args.map some ++ List.replicate (r.nl - r.np) none) h = .rt d h') : runFn r C args h = gc h d h' := by rw [run_eq r C args h hn, hb]
theorem run_nx {r : FnRec} {C : Or} {args : List D} {h h' : Hv} {e : Env} (hn : args.length = r.np) (hb : r.body C (args.map some ++ List.replicate (r.nl - r.np) none) h = .nx e h') : runFn r C args h = gc h .non h' := by rw [run_eq r C args h hn, hb]
end VM

set_option maxRecDepth 100000
set_option maxHeartbeats 0
namespace VM
open PySem L2
/-! == of whole numbers, and of what is the same -/
theorem eqv_int (i j : Int) : PyData.eqv (.int i) (.int j) = decide (i = j) := by
  simp only [PyData.eqv]; rfl
@[simp] theorem u_eqI (i j : Int) (h : Hv) : opEqD false (.int i) (.int j) h = .ok (.bl (decide (i = j))) h := by
  simp [opEqD, toP, eqv_int]
@[simp] theorem u_neI (i j : Int) (h : Hv) : opEqD true (.int i) (.int j) h = .ok (.bl (!decide (i = j))) h := by
  simp [opEqD, toP, eqv_int]
theorem toPs_self {h : Hv} {n : Nat} (ih : ∀ x p, toP h n x = some p → PyData.eqv p p = true) : ∀ (ds : List D) (ps : List PyData), toPs h n ds = some ps → PyData.eqvAll ps ps = true
  | [], ps, e => by
    simp only [toPs, Option.some.injEq] at e
    subst e; rfl
  | d :: ds, ps, e => by
    rw [toPs] at e
    split at e
    · rename_i p1 e1
      split at e
      · rename_i ps1 e2
        cases e
        simp [PyData.eqvAll, ih _ _ e1, toPs_self ih ds _ e2]
      · cases e
    · cases e
theorem toP_self {h : Hv} : ∀ (n : Nat) (x : D) (p : PyData), toP h n x = some p → PyData.eqv p p = true := by
  intro n
  induction n with
  | zero =>
    intro x p e
    cases x <;> simp [toP] at e
    · subst e; rfl
    · subst e; simp [PyData.eqv]
    · subst e; simp [PyData.eqv]
    · obtain ⟨_, rfl⟩ := e; simp [PyData.eqv]
  | succ n ih =>
    intro x p e
    cases x with
    | non => simp [toP] at e; subst e; rfl
    | bl b => simp [toP] at e; subst e; simp [PyData.eqv]
    | int i => simp [toP] at e; subst e; simp [PyData.eqv]
    | str s => simp [toP] at e; obtain ⟨_, rfl⟩ := e; simp [PyData.eqv]
    | tup ds =>
      simp only [toP, Option.map_eq_some_iff] at e
      obtain ⟨ps, e1, rfl⟩ := e
      simpa [PyData.eqv] using toPs_self ih ds ps e1
    | ref i =>
      rw [toP] at e
      split at e
      · simp only [Option.map_eq_some_iff] at e
        obtain ⟨ps, e1, rfl⟩ := e
        simpa [PyData.eqv] using toPs_self ih _ ps e1
      · cases e
theorem eq_same {x y : D} {p : PyData} {h : Hv} (hx : toP h 60 x = some p) (hy : toP h 60 y = some p) : opEqD false x y h = .ok (.bl true) h := by
  simp [opEqD, hx, hy, toP_self 60 x p hx]
theorem ne_same {x y : D} {p : PyData} {h : Hv} (hx : toP h 60 x = some p) (hy : toP h 60 y = some p) : opEqD true x y h = .ok (.bl false) h := by
  simp [opEqD, hx, hy, toP_self 60 x p hx]
/-! list comprehensions that change nothing -/
theorem lc_loop {α : Type} {C : Or} {env : Env} {tg : TF} {t elt : EF} {gs : Guards} {h1 : Hv} (enc : α → D) (p : α → Bool) (f : α → D) (ev : α → Env)
    (hg : ∀ acc, guardsOk gs (h1 ++ [.lst acc]) = true) : ∀ (L : List α) (acc : List D),
    (∀ x ∈ L, ∀ acc, tg (enc x) env (h1 ++ [.lst acc]) = some (ev x)) →
    (∀ x ∈ L, ∀ acc, t C (ev x) (h1 ++ [.lst acc]) = .ok (.bl (p x)) (h1 ++ [.lst acc])) →
    (∀ x ∈ L, p x = true → ∀ acc, elt C (ev x) (h1 ++ [.lst acc]) = .ok (f x) (h1 ++ [.lst acc])) →
    acc.length + L.length ≤ 1000000 →
    lcLoop C env tg t elt gs h1.length (L.map enc) (h1 ++ [.lst acc]) = .ok () (h1 ++ [.lst (acc ++ (L.filter p).map f)])
  | [], acc, _, _, _, _ => by simp [lcLoop, hg]
  | x :: xs, acc, htg, ht, he, hl => by
    have hl' : acc.length + (xs.length + 1) ≤ 1000000 := hl
    have ih := fun acc => lc_loop enc p f ev hg xs acc (fun y hy => htg y (by simp [hy])) (fun y hy => ht y (by simp [hy])) (fun y hy => he y (by simp [hy]))
    rw [List.map_cons, lcLoop, if_pos (hg acc), htg x (by simp) acc]
    simp only [ht x (by simp) acc, bind_ok]
    cases hp : p x with
    | false => simp only [List.filter_cons, hp]; exact ih acc (by omega)
    | true =>
      simp only [he x (by simp) hp acc, bind_ok, List.filter_cons, hp, if_true, List.map_cons]
      have e1 : (h1 ++ [Ob.lst acc])[h1.length]? = some (.lst acc) := by simp
      simp only [e1]
      rw [if_pos (by unfold szl; omega)]
      have e2 : (h1 ++ [Ob.lst acc]).set h1.length (.lst (acc ++ [f x])) = h1 ++ [.lst (acc ++ [f x])] := by simp [List.set_append]
      rw [e2, ih _ (by simp; omega)]
      simp
theorem lc_pure {α : Type} {C : Or} {env : Env} {it : IF} {tg : TF} {own : List Nat} {t elt : EF} {gs : Guards} {h h1 : Hv} (L : List α) (enc : α → D) (p : α → Bool) (f : α → D) (ev : α → Env)
    (hit : it C env h = .ok (L.map enc, gs) h1)
    (hg : ∀ acc, guardsOk gs (h1 ++ [.lst acc]) = true)
    (htg : ∀ x ∈ L, ∀ acc, tg (enc x) (wipeD env own) (h1 ++ [.lst acc]) = some (ev x))
    (ht : ∀ x ∈ L, ∀ acc, t C (ev x) (h1 ++ [.lst acc]) = .ok (.bl (p x)) (h1 ++ [.lst acc]))
    (he : ∀ x ∈ L, p x = true → ∀ acc, elt C (ev x) (h1 ++ [.lst acc]) = .ok (f x) (h1 ++ [.lst acc]))
    (hl : L.length ≤ 1000000) : lcF it tg own t elt C env h = .ok (.ref h1.length) (h1 ++ [.lst ((L.filter p).map f)]) := by
  rw [lcF, hit]
  simp only [bind_ok]
  rw [lc_loop enc p f ev hg L [] htg ht he (by simpa using hl)]
  simp [R.noexc]
/-- without a condition -/
theorem lc_all {α : Type} {C : Or} {env : Env} {it : IF} {tg : TF} {own : List Nat} {elt : EF} {gs : Guards} {h h1 : Hv} (L : List α) (enc : α → D) (f : α → D) (ev : α → Env)
    (hit : it C env h = .ok (L.map enc, gs) h1)
    (hg : ∀ acc, guardsOk gs (h1 ++ [.lst acc]) = true)
    (htg : ∀ x ∈ L, ∀ acc, tg (enc x) (wipeD env own) (h1 ++ [.lst acc]) = some (ev x))
    (he : ∀ x ∈ L, ∀ acc, elt C (ev x) (h1 ++ [.lst acc]) = .ok (f x) (h1 ++ [.lst acc]))
    (hl : L.length ≤ 1000000) : lcF it tg own (conF (.bl true)) elt C env h = .ok (.ref h1.length) (h1 ++ [.lst (L.map f)]) := by
  have := lc_pure (t := conF (.bl true)) L enc (fun _ => true) f ev hit hg htg (fun _ _ _ => rfl) (fun x hx _ => he x hx) hl
  rwa [List.filter_eq_self.2 (fun _ _ => rfl)] at this
@[simp] theorem g_nil (h : Hv) : guardsOk [] h = true := rfl
theorem zipD_map {α β : Type} (f : α → D) (g : β → D) : ∀ (as : List α) (bs : List β), zipD (as.map f) (bs.map g) = (as.zip bs).map fun p => .tup [f p.1, g p.2]
  | [], _ => by simp [zipD]
  | _ :: _, [] => by simp [zipD]
  | a :: as, b :: bs => by simp [zipD, zipD_map f g as bs]
theorem itZ_tt {C : Or} {env : Env} {h : Hv} {a b : EF} {α β : Type} {f : α → D} {g : β → D} {as : List α} {bs : List β} (ha : a C env h = .ok (.tup (as.map f)) h) (hb : b C env h = .ok (.tup (bs.map g)) h) : itZ a b C env h = .ok ((as.zip bs).map fun p => .tup [f p.1, g p.2], []) h := by
  simp [itZ, ha, hb, seqOf, zipD_map]
theorem itE_t {C : Or} {env : Env} {h : Hv} {a : EF} {ds : List D} (ha : a C env h = .ok (.tup ds) h) : itE a C env h = .ok (ds, []) h := by
  simp [itE, ha, seqOf]
theorem it1_ok {C : Or} {env : Env} {h h1 : Hv} {a : EF} {n : Nat} (ha : a C env h = .ok (.int n) h1) (hn : n ≤ 2 ^ 60) : it1F a C env h = .ok ((List.range n).map fun i => .int (i : Nat), []) h1 := by
  simp only [it1F, ha, bind_ok]
  rw [if_pos ⟨by omega, by omega⟩]
  simp [rng]
/-- a loop, by what holds of what is left -/
theorem for_inv {C : Or} {tg : TF} {body : SF} {gs : Guards} {P : List D → Env → Hv → Prop}
    (h0 : ∀ xs env h, P xs env h → guardsOk gs h = true)
    (hs : ∀ x xs env h, P (x :: xs) env h → ∃ env1, tg x env h = some env1 ∧ ∃ env2 h2, body C env1 h = .nx env2 h2 ∧ P xs env2 h2) :
    ∀ (xs : List D) (env : Env) (h : Hv), P xs env h → ∃ env' h', forL C tg body gs xs env h = .nx env' h' ∧ P [] env' h'
  | [], env, h, p => ⟨env, h, by rw [forL, if_pos (h0 _ _ _ p)], p⟩
  | x :: xs, env, h, p => by
    obtain ⟨env1, e1, env2, h2, e2, p2⟩ := hs x xs env h p
    obtain ⟨env', h', e3, p3⟩ := for_inv h0 hs xs env2 h2 p2
    exact ⟨env', h', by rw [forL, if_pos (h0 _ _ _ p)]; simp only [e1, e2, e3], p3⟩
/-! the pen -/
def PenOk (pen : List D) : Prop := ∃ a f c d : Int, pen = [.int a, .int f, .int c, .int d] ∧ 0 ≤ d ∧ d < 2 ^ 40
theorem PenOk.grs {pen : List D} (h : PenOk pen) : D.grs pen = true := by
  obtain ⟨a, f, c, d, rfl, _⟩ := h; rfl
end VM

set_option maxRecDepth 100000
set_option maxHeartbeats 0
namespace VM
open PySem L2
def F_is_whole : SF := (seqS (retS (andF (un1F (isiF "int") (varF 0)) (un1F opNot (un1F (isiF "bool") (varF 0))))) nxS)
def R_is_whole : FnRec := ⟨1, 1, F_is_whole⟩
def F_is_within : SF := (seqS (retS (andF (callF "is_whole" [(varF 0)]) (chainF opLe opLe (varF 1) (varF 0) (varF 2)))) nxS)
def R_is_within : FnRec := ⟨3, 3, F_is_within⟩
def F_common : SF := (seqS (whileS (binF opGt (varF 1) (conF (.int 0))) (seqS (parS 0 1 (varF 1) (binF opMod (varF 0) (varF 1))) nxS)) (seqS (retS (varF 0)) nxS))
def R_common : FnRec := ⟨2, 2, F_common⟩
def F_made : SF := (seqS (asgS (nmT 2) (callF "common" [(bltF bAbs [(varF 0)]), (varF 1)])) (seqS (retS (tupF [(binF opFdiv (varF 0) (varF 2)), (binF opFdiv (varF 1) (varF 2))])) nxS))
def R_made : FnRec := ⟨2, 3, F_made⟩
def F_plus : SF := (seqS (retS (callF "made" [(binF opAdd (binF opMul (binF opIx (varF 0) (conF (.int 0))) (binF opIx (varF 1) (conF (.int 1)))) (binF opMul (binF opIx (varF 1) (conF (.int 0))) (binF opIx (varF 0) (conF (.int 1))))), (binF opMul (binF opIx (varF 0) (conF (.int 1))) (binF opIx (varF 1) (conF (.int 1))))])) nxS)
def R_plus : FnRec := ⟨2, 2, F_plus⟩
def F_less : SF := (seqS (retS (callF "made" [(binF opSub (binF opMul (binF opIx (varF 0) (conF (.int 0))) (binF opIx (varF 1) (conF (.int 1)))) (binF opMul (binF opIx (varF 1) (conF (.int 0))) (binF opIx (varF 0) (conF (.int 1))))), (binF opMul (binF opIx (varF 0) (conF (.int 1))) (binF opIx (varF 1) (conF (.int 1))))])) nxS)
def R_less : FnRec := ⟨2, 2, F_less⟩
def F_times : SF := (seqS (retS (callF "made" [(binF opMul (binF opIx (varF 0) (conF (.int 0))) (binF opIx (varF 1) (conF (.int 0)))), (binF opMul (binF opIx (varF 0) (conF (.int 1))) (binF opIx (varF 1) (conF (.int 1))))])) nxS)
def R_times : FnRec := ⟨2, 2, F_times⟩
def F_so_many : SF := (seqS (retS (callF "made" [(binF opMul (varF 0) (binF opIx (varF 1) (conF (.int 0)))), (binF opIx (varF 1) (conF (.int 1)))])) nxS)
def R_so_many : FnRec := ⟨2, 2, F_so_many⟩
def F_all_of : SF := (seqS (asgS (nmT 1) (conF (.tup [(.int 0), (.int 1)]))) (seqS (forS (itE (varF 0)) (nmT 2) (seqS (asgS (nmT 1) (callF "plus" [(varF 1), (varF 2)])) nxS)) (seqS (retS (varF 1)) nxS)))
def R_all_of : FnRec := ⟨1, 3, F_all_of⟩
def F_is_partner : SF := (seqS (retS (callF "is_within" [(varF 1), (conF (.int 0)), (binF opSub (binF opIx (varF 0) (conF (.int 0))) (conF (.int 1)))])) nxS)
def R_is_partner : FnRec := ⟨2, 2, F_is_partner⟩
def F_lies : SF := (seqS (retS (andF (binF opLt (varF 1) (bltF bLen [(varF 0)])) (binF opGe (binF opIx (binF opIx (varF 0) (varF 1)) (conF (.int 1))) (varF 2)))) nxS)
def R_lies : FnRec := ⟨3, 3, F_lies⟩
def F_can_do : SF := (seqS (asgS (tupT [(nmT 3), (nmT 4), (nmT 5)]) (varF 0)) (seqS (asgS (nmT 2) (binF opIx (varF 1) (conF (.int 0)))) (seqS (ifS (binF (opEqD false) (varF 2) (conF (.str "pool"))) (seqS (ifS (orF (un1F opNot (callF "lies" [(varF 3), (binF opIx (varF 1) (conF (.int 1))), (conF (.int 1))])) (un1F opNot (callF "lies" [(varF 3), (binF opIx (varF 1) (conF (.int 2))), (conF (.int 1))]))) (seqS (retS (conF (.bl false))) nxS) nxS) (seqS (retS (binF (opEqD false) (binF opIx (binF opIx (varF 3) (binF opIx (varF 1) (conF (.int 1)))) (conF (.int 0))) (binF opIx (binF opIx (varF 3) (binF opIx (varF 1) (conF (.int 2)))) (conF (.int 0))))) nxS)) nxS) (seqS (ifS (binF (opEqD false) (varF 2) (conF (.str "trade"))) (seqS (retS (andF (binF (opIn true) (binF opIx (varF 1) (conF (.int 1))) (varF 5)) (callF "can_do" [(varF 0), (binF opAdd (tupF [(conF (.str "swap"))]) (slcF opSl (varF 1) (some (conF (.int 2))) none))]))) nxS) nxS) (seqS (ifS (binF (opEqD false) (varF 2) (conF (.str "swap"))) (seqS (retS (andF (callF "lies" [(varF 3), (binF opIx (varF 1) (conF (.int 1))), (binF opIx (varF 1) (conF (.int 2)))]) (binF (opEqD true) (binF opIx (binF opIx (varF 3) (binF opIx (varF 1) (conF (.int 1)))) (conF (.int 0))) (binF opIx (varF 1) (conF (.int 3)))))) nxS) nxS) (seqS (ifS (binF (opIn false) (varF 2) (tupF [(conF (.str "spoil")), (conF (.str "throw"))])) (seqS (retS (callF "lies" [(varF 3), (binF opIx (varF 1) (conF (.int 1))), (binF opIx (varF 1) (conF (.int 2)))])) nxS) nxS) (seqS (retS (conF (.bl true))) nxS)))))))
def R_can_do : FnRec := ⟨2, 6, F_can_do⟩
def F_with_less : SF := (seqS (asgS (tupT [(nmT 3), (nmT 4), (nmT 5)]) (binF opIx (varF 0) (varF 1))) (seqS (retS (binF opAdd (binF opAdd (slcF opSl (varF 0) none (some (varF 1))) (tupF [(tupF [(varF 3), (binF opSub (varF 4) (varF 2)), (varF 5)])])) (slcF opSl (varF 0) (some (binF opAdd (varF 1) (conF (.int 1)))) none))) nxS))
def R_with_less : FnRec := ⟨3, 6, F_with_less⟩
def F_pooled : SF := (seqS (parS 6 7 (binF opIx (varF 0) (varF 1)) (binF opIx (varF 0) (varF 2))) (seqS (asgS (nmT 3) (binF opAdd (binF opIx (varF 6) (conF (.int 1))) (binF opIx (varF 7) (conF (.int 1))))) (seqS (asgS (nmT 4) (lstF [])) (seqS (forS (itZ (binF opIx (varF 6) (conF (.int 2))) (binF opIx (varF 7) (conF (.int 2)))) (tupT [(nmT 8), (nmT 9)]) (seqS (asgS (nmT 10) (callF "plus" [(callF "so_many" [(binF opIx (varF 6) (conF (.int 1))), (varF 8)]), (callF "so_many" [(binF opIx (varF 7) (conF (.int 1))), (varF 9)])])) (seqS (expS (methF mAppend (varF 4) [(callF "made" [(binF opIx (varF 10) (conF (.int 0))), (binF opMul (binF opIx (varF 10) (conF (.int 1))) (varF 3))])])) nxS))) (seqS (asgS (nmT 5) (callF "with_less" [(callF "with_less" [(varF 0), (varF 1), (binF opIx (varF 6) (conF (.int 1)))]), (varF 2), (binF opIx (varF 7) (conF (.int 1)))])) (seqS (retS (binF opAdd (varF 5) (tupF [(tupF [(binF opIx (varF 6) (conF (.int 0))), (varF 3), (bltF bTuple [(varF 4)])])]))) nxS))))))
def R_pooled : FnRec := ⟨3, 11, F_pooled⟩
def F_sold_of : SF := (seqS (asgS (nmT 4) (callF "times" [(binF opIx (varF 0) (varF 1)), (varF 3)])) (seqS (asgS (nmT 5) (bltF bList [(varF 0)])) (seqS (setS (varF 5) (varF 1) (callF "less" [(binF opIx (varF 5) (varF 1)), (varF 4)])) (seqS (setS (varF 5) (varF 2) (callF "plus" [(binF opIx (varF 5) (varF 2)), (varF 4)])) (seqS (retS (bltF bTuple [(varF 5)])) nxS)))))
def R_sold_of : FnRec := ⟨4, 6, F_sold_of⟩
def F_borne_of : SF := (seqS (asgS (nmT 3) (callF "less" [(conF (.tup [(.int 1), (.int 1)])), (varF 1)])) (seqS (retS (bltF bTuple [(lcF (itZ (varF 0) (varF 2)) (tupT [(nmT 4), (nmT 5)]) [4, 5] (conF (.bl true)) (callF "plus" [(callF "times" [(varF 4), (varF 3)]), (callF "times" [(varF 5), (varF 1)])]))])) nxS))
def R_borne_of : FnRec := ⟨3, 6, F_borne_of⟩
def F_worth_of : SF := (seqS (retS (binF opAdd (bltF bSum [(lcF (itE (varF 1)) (nmT 3) [3] (conF (.bl true)) (binF opMul (binF opIx (varF 3) (conF (.int 1))) (binF opIx (varF 2) (binF opIx (varF 3) (conF (.int 0))))))]) (binF opMul (binF opIx (varF 0) (conF (.int 2))) (binF opIx (varF 2) (un1F opNeg (conF (.int 1))))))) nxS)
def R_worth_of : FnRec := ⟨3, 4, F_worth_of⟩
def F_cost_in : SF := (seqS (asgS (nmT 3) (binF opIx (varF 1) (conF (.int 0)))) (seqS (retS (callF "made" [(binF opMul (binF opIx (varF 2) (conF (.int 2))) (binF opIx (binF opIx (varF 2) (conF (.int 3))) (binF opIx (binF opIx (varF 3) (binF opIx (varF 2) (conF (.int 1)))) (conF (.int 0))))), (callF "worth_of" [(varF 0), (varF 3), (binF opIx (varF 2) (conF (.int 3)))])])) nxS))
def R_cost_in : FnRec := ⟨3, 4, F_cost_in⟩
def F_thrown : SF := (seqS (asgS (tupT [(nmT 4), (nmT 5), (nmT 6)]) (varF 1)) (seqS (asgS (tupT [(nmT 7), (nmT 8)]) (tupF [(callF "cost_in" [(varF 0), (varF 1), (varF 2)]), (binF opIx (binF opIx (varF 4) (binF opIx (varF 2) (conF (.int 1)))) (conF (.int 2)))])) (seqS (asgS (nmT 3) (callF "with_less" [(varF 4), (binF opIx (varF 2) (conF (.int 1))), (binF opIx (varF 2) (conF (.int 2)))])) (seqS (asgS (nmT 4) (bltF bTuple [(lcF (itE (varF 3)) (tupT [(nmT 9), (nmT 10), (nmT 11)]) [9, 10, 11] (conF (.bl true)) (tupF [(varF 9), (varF 10), (callF "borne_of" [(varF 11), (varF 7), (varF 8)])]))])) (seqS (retS (tupF [(varF 4), (callF "borne_of" [(varF 5), (varF 7), (varF 8)]), (varF 6)])) nxS)))))
def R_thrown : FnRec := ⟨3, 12, F_thrown⟩
def F_done : SF := (seqS (asgS (tupT [(nmT 5), (nmT 6), (nmT 7)]) (varF 1)) (seqS (asgS (nmT 3) (binF opIx (varF 2) (conF (.int 0)))) (seqS (ifS (binF (opEqD false) (varF 3) (conF (.str "bring"))) (seqS (asgS (nmT 8) (bltF bTuple [(lcF (it1F (binF opIx (varF 0) (conF (.int 0)))) (nmT 12) [12] (conF (.bl true)) (tupF [(bltF bInt [(binF (opEqD false) (varF 12) (binF opIx (varF 2) (conF (.int 1))))]), (conF (.int 1))]))])) (seqS (retS (tupF [(binF opAdd (varF 5) (tupF [(tupF [(binF opIx (varF 2) (conF (.int 2))), (binF opIx (varF 2) (conF (.int 3))), (varF 8)])])), (varF 6), (varF 7)])) nxS)) nxS) (seqS (ifS (binF (opEqD false) (varF 3) (conF (.str "pool"))) (seqS (retS (tupF [(callF "pooled" [(varF 5), (binF opIx (varF 2) (conF (.int 1))), (binF opIx (varF 2) (conF (.int 2)))]), (varF 6), (varF 7)])) nxS) nxS) (seqS (ifS (binF (opEqD false) (varF 3) (conF (.str "trade"))) (seqS (asgS (tupT [(nmT 5), (nmT 6), (nmT 7)]) (callF "done" [(varF 0), (varF 1), (binF opAdd (tupF [(conF (.str "swap"))]) (slcF opSl (varF 2) (some (conF (.int 2))) none))])) (seqS (retS (tupF [(varF 5), (varF 6), (binF opAdd (varF 7) (tupF [(binF opIx (varF 2) (conF (.int 1)))]))])) nxS)) nxS) (seqS (ifS (binF (opEqD false) (varF 3) (conF (.str "swap"))) (seqS (retS (tupF [(binF opAdd (callF "with_less" [(varF 5), (binF opIx (varF 2) (conF (.int 1))), (binF opIx (varF 2) (conF (.int 2)))]) (tupF [(tupF [(binF opIx (varF 2) (conF (.int 3))), (binF opIx (varF 2) (conF (.int 4))), (binF opIx (binF opIx (varF 5) (binF opIx (varF 2) (conF (.int 1)))) (conF (.int 2)))])])), (varF 6), (varF 7)])) nxS) nxS) (seqS (ifS (binF (opEqD false) (varF 3) (conF (.str "spoil"))) (seqS (retS (tupF [(callF "with_less" [(varF 5), (binF opIx (varF 2) (conF (.int 1))), (binF opIx (varF 2) (conF (.int 2)))]), (varF 6), (varF 7)])) nxS) nxS) (seqS (ifS (binF (opEqD false) (varF 3) (conF (.str "throw"))) (seqS (retS (callF "thrown" [(varF 0), (varF 1), (varF 2)])) nxS) nxS) (seqS (asgS (tupT [(nmT 9), (nmT 10), (nmT 11)]) (slcF opSl (varF 2) (some (conF (.int 1))) none)) (seqS (asgS (nmT 4) (bltF bTuple [(lcF (itE (varF 5)) (tupT [(nmT 13), (nmT 14), (nmT 15)]) [13, 14, 15] (conF (.bl true)) (tupF [(varF 13), (varF 14), (callF "sold_of" [(varF 15), (varF 9), (varF 10), (varF 11)])]))])) (seqS (retS (tupF [(varF 4), (callF "sold_of" [(varF 6), (varF 9), (varF 10), (varF 11)]), (varF 7)])) nxS)))))))))))
def R_done : FnRec := ⟨3, 16, F_done⟩
def F_begun : SF := (seqS (retS (tupF [(binF opIx (varF 0) (conF (.int 1))), (binF opIx (binF opIx (varF 0) (conF (.int 0))) (conF (.int 3))), (tupF [])])) nxS)
def R_begun : FnRec := ⟨1, 1, F_begun⟩
def F_after : SF := (seqS (asgS (nmT 2) (callF "begun" [(varF 0)])) (seqS (forS (itE (slcF opSl (binF opIx (varF 0) (conF (.int 2))) none (some (varF 1)))) (nmT 3) (seqS (asgS (nmT 2) (callF "done" [(binF opIx (varF 0) (conF (.int 0))), (varF 2), (varF 3)])) nxS)) (seqS (retS (varF 2)) nxS)))
def R_after : FnRec := ⟨2, 4, F_after⟩
def F_wrong_in : SF := (seqS (asgS (nmT 1) (callF "begun" [(varF 0)])) (seqS (forS (itN (binF opIx (varF 0) (conF (.int 2)))) (tupT [(nmT 2), (nmT 3)]) (seqS (ifS (un1F opNot (callF "can_do" [(varF 1), (varF 3)])) (seqS (retS (varF 2)) nxS) nxS) (seqS (asgS (nmT 1) (callF "done" [(binF opIx (varF 0) (conF (.int 0))), (varF 1), (varF 3)])) nxS))) (seqS (retS (conF .non)) nxS)))
def R_wrong_in : FnRec := ⟨1, 4, F_wrong_in⟩
def F_need_done : SF := (seqS (asgS (nmT 1) (callF "wrong_in" [(varF 0)])) (seqS (ifS (binF (opIs true) (varF 1) (conF .non)) (seqS stkS nxS) nxS) nxS))
def R_need_done : FnRec := ⟨1, 2, F_need_done⟩
def F_need_many : SF := (seqS (ifS (un1F opNot (callF "is_within" [(varF 1), (conF (.int 0)), (bltF bLen [(binF opIx (varF 0) (conF (.int 2)))])])) (seqS stkS nxS) nxS) nxS)
def R_need_many : FnRec := ⟨2, 2, F_need_many⟩
def F_need_partner : SF := (seqS (ifS (un1F opNot (callF "is_partner" [(binF opIx (varF 0) (conF (.int 0))), (varF 1)])) (seqS stkS nxS) nxS) nxS)
def R_need_partner : FnRec := ⟨2, 2, F_need_partner⟩
def F_loads_in : SF := (seqS (retS (binF opIx (callF "after" [(varF 0), (varF 1)]) (conF (.int 0)))) nxS)
def R_loads_in : FnRec := ⟨2, 2, F_loads_in⟩
def F_theirs_in : SF := (seqS (asgS (nmT 3) (callF "loads_in" [(varF 0), (varF 1)])) (seqS (asgS (nmT 4) (lstF [])) (seqS (forS (it1F (binF opIx (binF opIx (varF 0) (conF (.int 0))) (conF (.int 1)))) (nmT 5) (seqS (asgS (nmT 6) (lcF (itE (varF 3)) (tupT [(nmT 7), (nmT 8), (nmT 9)]) [7, 8, 9] (binF (opEqD false) (varF 7) (varF 5)) (callF "so_many" [(varF 8), (binF opIx (varF 9) (varF 2))]))) (seqS (expS (methF mAppend (varF 4) [(callF "all_of" [(varF 6)])])) nxS))) (seqS (retS (bltF bTuple [(varF 4)])) nxS))))
def R_theirs_in : FnRec := ⟨3, 10, F_theirs_in⟩
def F_theirs_by : SF := (seqS (expS (callF "need_done" [(varF 0)])) (seqS (expS (callF "need_many" [(varF 0), (varF 1)])) (seqS (expS (callF "need_partner" [(varF 0), (varF 2)])) (seqS (retS (callF "theirs_in" [(varF 0), (varF 1), (varF 2)])) nxS))))
def R_theirs_by : FnRec := ⟨3, 3, F_theirs_by⟩
def F_given_by : SF := (seqS (asgS (nmT 4) (callF "made" [(binF opIx (binF opIx (varF 0) (varF 2)) (conF (.int 0))), (binF opMul (binF opIx (binF opIx (varF 0) (varF 2)) (conF (.int 1))) (binF opIx (binF opIx (varF 1) (varF 2)) (conF (.int 1))))])) (seqS (setS (varF 0) (varF 2) (callF "less" [(binF opIx (varF 0) (varF 2)), (callF "so_many" [(varF 3), (varF 4)])])) (seqS (retS (varF 4)) nxS)))
def R_given_by : FnRec := ⟨4, 5, F_given_by⟩
def F_do_alone : SF := (seqS (asgS (nmT 4) (binF opIx (varF 2) (conF (.int 0)))) (seqS (ifS (binF (opEqD false) (varF 4) (conF (.str "bring"))) (seqS (expS (methF mAppend (varF 0) [(iteF (binF (opEqD false) (binF opIx (varF 2) (conF (.int 1))) (varF 3)) (tupF [(binF opIx (varF 2) (conF (.int 3))), (conF (.int 1))]) (conF (.tup [(.int 0), (.int 1)])))])) nxS) (seqS (ifS (binF (opEqD false) (varF 4) (conF (.str "pool"))) (seqS (expS (methF mAppend (varF 0) [(callF "plus" [(binF opIx (varF 0) (binF opIx (varF 2) (conF (.int 1)))), (binF opIx (varF 0) (binF opIx (varF 2) (conF (.int 2))))])])) (seqS (setS (varF 0) (binF opIx (varF 2) (conF (.int 1))) (conF (.tup [(.int 0), (.int 1)]))) (seqS (setS (varF 0) (binF opIx (varF 2) (conF (.int 2))) (conF (.tup [(.int 0), (.int 1)]))) nxS))) (seqS (ifS (binF (opEqD false) (varF 4) (conF (.str "swap"))) (seqS (expS (methF mAppend (varF 0) [(callF "so_many" [(binF opIx (varF 2) (conF (.int 4))), (callF "given_by" [(varF 0), (varF 1), (binF opIx (varF 2) (conF (.int 1))), (binF opIx (varF 2) (conF (.int 2)))])])])) nxS) (seqS (ifS (binF (opEqD false) (varF 4) (conF (.str "trade"))) (seqS (expS (methF mAppend (varF 0) [(callF "so_many" [(binF opIx (varF 2) (conF (.int 5))), (callF "given_by" [(varF 0), (varF 1), (binF opIx (varF 2) (conF (.int 2))), (binF opIx (varF 2) (conF (.int 3)))])])])) nxS) (seqS (ifS (binF (opIn false) (varF 4) (tupF [(conF (.str "spoil")), (conF (.str "throw"))])) (seqS (expS (callF "given_by" [(varF 0), (varF 1), (binF opIx (varF 2) (conF (.int 1))), (binF opIx (varF 2) (conF (.int 2)))])) nxS) nxS) nxS)) nxS)) nxS)) nxS)) nxS))
def R_do_alone : FnRec := ⟨4, 5, F_do_alone⟩
def F_had_alone_b1 : SF := (seqS (expS (callF "do_alone" [(varF 2), (callF "loads_in" [(varF 0), (varF 3)]), (varF 4), (varF 1)])) nxS)
def F_had_alone : SF := (seqS (asgS (nmT 2) (lcF (itE (binF opIx (varF 0) (conF (.int 1)))) (tupT [(nmT 5), (nmT 6), (nmT 7)]) [5, 6, 7] (conF (.bl true)) (callF "so_many" [(varF 6), (binF opIx (varF 7) (varF 1))]))) (seqS (forS (itN (binF opIx (varF 0) (conF (.int 2)))) (tupT [(nmT 3), (nmT 4)]) F_had_alone_b1) (seqS (retS (varF 2)) nxS)))
def R_had_alone : FnRec := ⟨2, 8, F_had_alone⟩
def F_alone_in_b1 : SF := (seqS (setS (varF 2) (binF opIx (varF 3) (conF (.int 0))) (callF "plus" [(binF opIx (varF 2) (binF opIx (varF 3) (conF (.int 0)))), (varF 4)])) nxS)
def F_alone_in : SF := (seqS (asgS (nmT 2) (binF opMul (lstF [(conF (.tup [(.int 0), (.int 1)]))]) (binF opIx (binF opIx (varF 0) (conF (.int 0))) (conF (.int 1))))) (seqS (forS (itZ (callF "loads_in" [(varF 0), (bltF bLen [(binF opIx (varF 0) (conF (.int 2)))])]) (callF "had_alone" [(varF 0), (varF 1)])) (tupT [(nmT 3), (nmT 4)]) F_alone_in_b1) (seqS (retS (bltF bTuple [(varF 2)])) nxS)))
def R_alone_in : FnRec := ⟨2, 5, F_alone_in⟩
def F_alone_of : SF := (seqS (expS (callF "need_done" [(varF 0)])) (seqS (expS (callF "need_partner" [(varF 0), (varF 1)])) (seqS (retS (callF "alone_in" [(varF 0), (varF 1)])) nxS)))
def R_alone_of : FnRec := ⟨2, 2, F_alone_of⟩
def F_by_others : SF := (seqS (expS (callF "need_done" [(varF 0)])) (seqS (expS (callF "need_partner" [(varF 0), (varF 1)])) (seqS (asgS (nmT 2) (callF "theirs_in" [(varF 0), (bltF bLen [(binF opIx (varF 0) (conF (.int 2)))]), (varF 1)])) (seqS (retS (bltF bTuple [(lcF (itZ (varF 2) (callF "alone_in" [(varF 0), (varF 1)])) (tupT [(nmT 3), (nmT 4)]) [3, 4] (conF (.bl true)) (callF "less" [(varF 3), (varF 4)]))])) nxS))))
def R_by_others : FnRec := ⟨2, 5, F_by_others⟩
def F_need_sale : SF := (seqS (ifS (orF (un1F opNot (callF "is_within" [(varF 1), (conF (.int 0)), (binF opSub (bltF bLen [(binF opIx (varF 0) (conF (.int 2)))]) (conF (.int 1)))])) (binF (opEqD true) (binF opIx (binF opIx (binF opIx (varF 0) (conF (.int 2))) (varF 1)) (conF (.int 0))) (conF (.str "sell")))) (seqS stkS nxS) nxS) nxS)
def R_need_sale : FnRec := ⟨2, 2, F_need_sale⟩
def F_left_out : SF := (seqS (asgS (tupT [(nmT 2), (nmT 3), (nmT 4)]) (varF 0)) (seqS (retS (tupF [(varF 2), (varF 3), (binF opAdd (slcF opSl (varF 4) none (some (varF 1))) (slcF opSl (varF 4) (some (binF opAdd (varF 1) (conF (.int 1)))) none))])) nxS))
def R_left_out : FnRec := ⟨2, 5, F_left_out⟩
def F_unsold : SF := (seqS (expS (callF "need_done" [(varF 0)])) (seqS (expS (callF "need_sale" [(varF 0), (varF 1)])) (seqS (retS (callF "left_out" [(varF 0), (varF 1)])) nxS)))
def R_unsold : FnRec := ⟨2, 2, F_unsold⟩
def F_stock_in : SF := (seqS (retS (bltF bTuple [(lcF (it1F (binF opIx (binF opIx (varF 0) (conF (.int 0))) (conF (.int 1)))) (nmT 2) [2] (conF (.bl true)) (bltF bSum [(lcF (itE (binF opIx (varF 1) (conF (.int 0)))) (tupT [(nmT 3), (nmT 4), (nmT 5)]) [3, 4, 5] (binF (opEqD false) (varF 3) (varF 2)) (varF 4))]))])) nxS)
def R_stock_in : FnRec := ⟨2, 6, F_stock_in⟩
def F_stock_by : SF := (seqS (expS (callF "need_done" [(varF 0)])) (seqS (expS (callF "need_many" [(varF 0), (varF 1)])) (seqS (retS (callF "stock_in" [(varF 0), (callF "after" [(varF 0), (varF 1)])])) nxS)))
def R_stock_by : FnRec := ⟨2, 2, F_stock_by⟩
def F__law_pen : SF := (seqS (retS (lstF [(varF 0), (bltF bInt [(binF opGe (varF 0) (binF opPow (conF (.int 10)) (conF (.int 18))))]), (conF (.int 0)), (binF opMod (varF 0) (conF (.int 1000000007)))])) nxS)
def R__law_pen : FnRec := ⟨1, 1, F__law_pen⟩
def F__law_cell_at : SF := (seqS (ifS (binF opLt (varF 1) (bltF bLen [(varF 0)])) (seqS (retS (binF opIx (varF 0) (varF 1))) nxS) nxS) (seqS (retS (conF (.int 0))) nxS))
def R__law_cell_at : FnRec := ⟨2, 2, F__law_cell_at⟩
def F__law_draw : SF := (seqS (ifS (andF (binF (opEqD false) (binF opIx (varF 0) (conF (.int 1))) (conF (.int 1))) (binF opGt (binF opIx (varF 0) (conF (.int 0))) (conF (.int 0)))) (seqS (asgS (nmT 3) (binF opMod (binF opIx (varF 0) (conF (.int 0))) (varF 1))) (seqS (setS (varF 0) (conF (.int 0)) (binF opFdiv (binF opIx (varF 0) (conF (.int 0))) (varF 1))) (seqS (retS (varF 3)) nxS))) nxS) (seqS (setS (varF 0) (conF (.int 2)) (binF opAdd (binF opIx (varF 0) (conF (.int 2))) (conF (.int 1)))) (seqS (asgS (nmT 2) (binF opMod (binF opMul (binF opAdd (binF opIx (varF 0) (conF (.int 3))) (conF (.int 17))) (binF opAdd (conF (.int 69621)) (binF opMul (conF (.int 2)) (binF opIx (varF 0) (conF (.int 2)))))) (conF (.int 2147483647)))) (seqS (asgS (nmT 2) (binF opMod (binF opAdd (binF opAdd (binF opMul (varF 2) (varF 2)) (binF opMul (conF (.int 40503)) (binF opIx (varF 0) (conF (.int 2))))) (conF (.int 5))) (conF (.int 2147483629)))) (seqS (retS (binF opMod (binF opFdiv (binF opMod (binF opMul (varF 2) (conF (.int 48271))) (conF (.int 2147483647))) (conF (.int 32))) (varF 1))) nxS)))))
def R__law_draw : FnRec := ⟨2, 4, F__law_draw⟩
def F__law_common : SF := (seqS (whileS (binF opGt (varF 1) (conF (.int 0))) (seqS (parS 0 1 (varF 1) (binF opMod (varF 0) (varF 1))) nxS)) (seqS (retS (varF 0)) nxS))
def R__law_common : FnRec := ⟨2, 2, F__law_common⟩
def F__law_made : SF := (seqS (asgS (nmT 2) (callF "_law_common" [(bltF bAbs [(varF 0)]), (varF 1)])) (seqS (retS (tupF [(binF opFdiv (varF 0) (varF 2)), (binF opFdiv (varF 1) (varF 2))])) nxS))
def R__law_made : FnRec := ⟨2, 3, F__law_made⟩
def F__law_whole : SF := (seqS (asgS (nmT 2) (lcF (it1F (varF 1)) (nmT 3) [3] (conF (.bl true)) (binF opIx (lstF [(conF (.int 0)), (conF (.int 1)), (callF "_law_draw" [(varF 0), (conF (.int 4))]), (callF "_law_draw" [(varF 0), (conF (.int 9))])]) (callF "_law_draw" [(varF 0), (conF (.int 4))])))) (seqS (ifS (binF (opEqD false) (bltF bSum [(varF 2)]) (conF (.int 0))) (seqS (setS (varF 2) (callF "_law_draw" [(varF 0), (varF 1)]) (conF (.int 1))) nxS) nxS) (seqS (retS (bltF bTuple [(lcF (itE (varF 2)) (nmT 4) [4] (conF (.bl true)) (callF "_law_made" [(varF 4), (bltF bSum [(varF 2)])]))])) nxS)))
def R__law_whole : FnRec := ⟨2, 5, F__law_whole⟩
def F__law_train : SF := (seqS (parS 2 3 (binF opAdd (conF (.int 1)) (callF "_law_draw" [(varF 0), (conF (.int 4))])) (binF opAdd (conF (.int 1)) (callF "_law_draw" [(varF 0), (conF (.int 5))]))) (seqS (asgS (nmT 1) (binF opIx (lstF [(binF opAdd (conF (.int 1)) (callF "_law_draw" [(varF 0), (conF (.int 3))])), (binF opAdd (conF (.int 1)) (callF "_law_draw" [(varF 0), (conF (.int 20))]))]) (callF "_law_draw" [(varF 0), (conF (.int 2))]))) (seqS (retS (tupF [(varF 2), (varF 3), (varF 1), (callF "_law_whole" [(varF 0), (varF 2)]), (callF "_law_draw" [(varF 0), (conF (.int 10))]), (callF "_law_draw" [(varF 0), (conF (.int 10))])])) nxS)))
def R__law_train : FnRec := ⟨1, 4, F__law_train⟩
def F__law_pieces : SF := (seqS (asgS (nmT 1) (binF opAdd (binF opPow (conF (.int 10)) (conF (.int 30))) (callF "_law_draw" [(varF 0), (conF (.int 99))]))) (seqS (retS (binF opIx (lstF [(binF opAdd (conF (.int 1)) (callF "_law_draw" [(varF 0), (conF (.int 4))])), (binF opAdd (conF (.int 1)) (callF "_law_draw" [(varF 0), (conF (.int 40))])), (binF opAdd (conF (.int 1)) (callF "_law_draw" [(varF 0), (conF (.int 999))])), (varF 1)]) (binF opFdiv (callF "_law_draw" [(varF 0), (conF (.int 7))]) (conF (.int 2))))) nxS))
def R__law_pieces : FnRec := ⟨1, 2, F__law_pieces⟩
def F__law_first : SF := (seqS (asgS (nmT 2) (lstF [])) (seqS (forS (it1F (binF opIx (lstF [(conF (.int 0)), (conF (.int 1)), (callF "_law_draw" [(varF 0), (conF (.int 5))])]) (callF "_law_draw" [(varF 0), (conF (.int 3))]))) (nmT 3) (seqS (expS (methF mAppend (varF 2) [(tupF [(callF "_law_draw" [(varF 0), (binF opIx (varF 1) (conF (.int 1)))]), (callF "_law_pieces" [(varF 0)]), (callF "_law_whole" [(varF 0), (binF opIx (varF 1) (conF (.int 0)))])])])) nxS)) (seqS (retS (bltF bTuple [(varF 2)])) nxS)))
def R__law_first : FnRec := ⟨2, 4, F__law_first⟩
def F__law_begun : SF := (seqS (retS (lstF [(lcF (itE (binF opIx (varF 0) (conF (.int 1)))) (nmT 1) [1] (conF (.bl true)) (bltF bList [(varF 1)])), (bltF bTuple [(binF opIx (binF opIx (varF 0) (conF (.int 0))) (conF (.int 3)))]), (lstF [])])) nxS)
def R__law_begun : FnRec := ⟨1, 2, F__law_begun⟩
def F__law_share : SF := (seqS (asgS (nmT 1) (binF opAdd (conF (.int 1)) (callF "_law_draw" [(varF 0), (conF (.int 12))]))) (seqS (retS (callF "_law_made" [(binF opAdd (conF (.int 1)) (callF "_law_draw" [(varF 0), (varF 1)])), (varF 1)])) nxS))
def R__law_share : FnRec := ⟨1, 2, F__law_share⟩
def F__law_worths : SF := (seqS (retS (bltF bTuple [(lcF (it1F (varF 1)) (nmT 2) [2] (conF (.bl true)) (binF opAdd (conF (.int 1)) (binF opIx (lstF [(callF "_law_draw" [(varF 0), (conF (.int 3))]), (callF "_law_draw" [(varF 0), (conF (.int 99))])]) (callF "_law_draw" [(varF 0), (conF (.int 2))]))))])) nxS)
def R__law_worths : FnRec := ⟨2, 3, F__law_worths⟩
def F__law_deed : SF := (seqS (asgS (tupT [(nmT 7), (nmT 8), (nmT 9)]) (varF 2)) (seqS (asgS (nmT 3) (lcF (itN (varF 7)) (tupT [(nmT 14), (nmT 5)]) [14, 5] (binF opGt (binF opIx (varF 5) (conF (.int 1))) (conF (.int 0))) (varF 14))) (seqS (asgS (nmT 4) (callF "_law_draw" [(varF 0), (conF (.int 12))])) (seqS (ifS (orF (binF opLt (varF 4) (conF (.int 2))) (binF (opEqD false) (varF 3) (lstF []))) (seqS (retS (tupF [(conF (.str "bring")), (callF "_law_draw" [(varF 0), (binF opIx (varF 1) (conF (.int 0)))]), (callF "_law_draw" [(varF 0), (binF opIx (varF 1) (conF (.int 1)))]), (callF "_law_pieces" [(varF 0)])])) nxS) nxS) (seqS (asgS (nmT 5) (binF opIx (varF 3) (callF "_law_draw" [(varF 0), (bltF bLen [(varF 3)])]))) (seqS (asgS (nmT 6) (binF opAdd (conF (.int 1)) (callF "_law_draw" [(varF 0), (bltF bMin [(binF opIx (binF opIx (varF 7) (varF 5)) (conF (.int 1))), (conF (.int 2000))])]))) (seqS (ifS (binF opLt (varF 4) (conF (.int 5))) (seqS (asgS (nmT 10) (lcF (itE (varF 3)) (nmT 14) [14] (andF (binF (opEqD true) (varF 14) (varF 5)) (binF (opEqD false) (binF opIx (binF opIx (varF 7) (varF 14)) (conF (.int 0))) (binF opIx (binF opIx (varF 7) (varF 5)) (conF (.int 0))))) (varF 14))) (seqS (ifS (binF (opEqD true) (varF 10) (lstF [])) (seqS (retS (tupF [(conF (.str "pool")), (varF 5), (binF opIx (varF 10) (callF "_law_draw" [(varF 0), (bltF bLen [(varF 10)])]))])) nxS) nxS) nxS)) nxS) (seqS (ifS (andF (binF opLt (varF 4) (conF (.int 8))) (binF opGt (binF opIx (varF 1) (conF (.int 1))) (conF (.int 1)))) (seqS (asgS (nmT 11) (binF opMod (binF opAdd (binF opAdd (binF opIx (binF opIx (varF 7) (varF 5)) (conF (.int 0))) (conF (.int 1))) (callF "_law_draw" [(varF 0), (binF opSub (binF opIx (varF 1) (conF (.int 1))) (conF (.int 1)))])) (binF opIx (varF 1) (conF (.int 1))))) (seqS (asgS (nmT 12) (lcF (it1F (conF (.int 10))) (nmT 15) [15] (binF (opIn true) (varF 15) (varF 9)) (varF 15))) (seqS (ifS (andF (binF (opEqD false) (varF 4) (conF (.int 7))) (binF (opEqD true) (varF 12) (lstF []))) (seqS (retS (tupF [(conF (.str "trade")), (binF opIx (varF 12) (callF "_law_draw" [(varF 0), (bltF bLen [(varF 12)])])), (varF 5), (varF 6), (varF 11), (callF "_law_pieces" [(varF 0)])])) nxS) nxS) (seqS (retS (tupF [(conF (.str "swap")), (varF 5), (varF 6), (varF 11), (callF "_law_pieces" [(varF 0)])])) nxS)))) nxS) (seqS (ifS (binF (opEqD false) (varF 4) (conF (.int 8))) (seqS (retS (tupF [(conF (.str "spoil")), (varF 5), (varF 6)])) nxS) nxS) (seqS (ifS (andF (binF (opEqD false) (varF 4) (conF (.int 9))) (binF opGt (binF opIx (varF 1) (conF (.int 0))) (conF (.int 1)))) (seqS (asgS (nmT 13) (callF "_law_draw" [(varF 0), (binF opIx (varF 1) (conF (.int 0)))])) (seqS (retS (tupF [(conF (.str "sell")), (varF 13), (binF opMod (binF opAdd (binF opAdd (varF 13) (conF (.int 1))) (callF "_law_draw" [(varF 0), (binF opSub (binF opIx (varF 1) (conF (.int 0))) (conF (.int 1)))])) (binF opIx (varF 1) (conF (.int 0)))), (callF "_law_share" [(varF 0)])])) nxS)) nxS) (seqS (retS (tupF [(conF (.str "throw")), (varF 5), (varF 6), (callF "_law_worths" [(varF 0), (binF opAdd (binF opIx (varF 1) (conF (.int 1))) (conF (.int 1)))])])) nxS)))))))))))
def R__law_deed : FnRec := ⟨3, 16, F__law_deed⟩
def F__law_plus : SF := (seqS (retS (callF "_law_made" [(binF opAdd (binF opMul (binF opIx (varF 0) (conF (.int 0))) (binF opIx (varF 1) (conF (.int 1)))) (binF opMul (binF opIx (varF 1) (conF (.int 0))) (binF opIx (varF 0) (conF (.int 1))))), (binF opMul (binF opIx (varF 0) (conF (.int 1))) (binF opIx (varF 1) (conF (.int 1))))])) nxS)
def R__law_plus : FnRec := ⟨2, 2, F__law_plus⟩
def F__law_times : SF := (seqS (retS (callF "_law_made" [(binF opMul (binF opIx (varF 0) (conF (.int 0))) (binF opIx (varF 1) (conF (.int 0)))), (binF opMul (binF opIx (varF 0) (conF (.int 1))) (binF opIx (varF 1) (conF (.int 1))))])) nxS)
def R__law_times : FnRec := ⟨2, 2, F__law_times⟩
def F__law_pooled : SF := (seqS (asgS (nmT 2) (lstF [])) (seqS (forS (itZ (binF opIx (varF 0) (conF (.int 2))) (binF opIx (varF 1) (conF (.int 2)))) (tupT [(nmT 3), (nmT 4)]) (seqS (asgS (nmT 5) (callF "_law_plus" [(callF "_law_times" [(tupF [(binF opIx (varF 0) (conF (.int 1))), (conF (.int 1))]), (varF 3)]), (callF "_law_times" [(tupF [(binF opIx (varF 1) (conF (.int 1))), (conF (.int 1))]), (varF 4)])])) (seqS (expS (methF mAppend (varF 2) [(callF "_law_times" [(varF 5), (callF "_law_made" [(conF (.int 1)), (binF opAdd (binF opIx (varF 0) (conF (.int 1))) (binF opIx (varF 1) (conF (.int 1))))])])])) nxS))) (seqS (retS (bltF bTuple [(varF 2)])) nxS)))
def R__law_pooled : FnRec := ⟨2, 6, F__law_pooled⟩
def F__law_cost : SF := (seqS (asgS (nmT 3) (binF opIx (varF 2) (conF (.int 3)))) (seqS (asgS (nmT 4) (binF opAdd (bltF bSum [(lcF (itE (varF 1)) (tupT [(nmT 5), (nmT 6), (nmT 7)]) [5, 6, 7] (conF (.bl true)) (binF opMul (varF 6) (binF opIx (varF 3) (varF 5))))]) (binF opMul (binF opIx (varF 0) (conF (.int 2))) (binF opIx (varF 3) (un1F opNeg (conF (.int 1))))))) (seqS (retS (callF "_law_made" [(binF opMul (binF opIx (varF 2) (conF (.int 2))) (binF opIx (varF 3) (binF opIx (binF opIx (varF 1) (binF opIx (varF 2) (conF (.int 1)))) (conF (.int 0))))), (varF 4)])) nxS)))
def R__law_cost : FnRec := ⟨3, 8, F__law_cost⟩
def F__law_less : SF := (seqS (retS (callF "_law_plus" [(varF 0), (tupF [(binF opSub (conF (.int 0)) (binF opIx (varF 1) (conF (.int 0)))), (binF opIx (varF 1) (conF (.int 1)))])])) nxS)
def R__law_less : FnRec := ⟨2, 2, F__law_less⟩
def F__law_borne : SF := (seqS (asgS (nmT 3) (lstF [])) (seqS (forS (itZ (varF 0) (varF 2)) (tupT [(nmT 4), (nmT 5)]) (seqS (expS (methF mAppend (varF 3) [(callF "_law_plus" [(callF "_law_times" [(varF 4), (callF "_law_less" [(tupF [(conF (.int 1)), (conF (.int 1))]), (varF 1)])]), (callF "_law_times" [(varF 5), (varF 1)])])])) nxS)) (seqS (retS (bltF bTuple [(varF 3)])) nxS)))
def R__law_borne : FnRec := ⟨3, 6, F__law_borne⟩
def F__law_sold : SF := (seqS (asgS (nmT 2) (bltF bList [(varF 0)])) (seqS (asgS (nmT 3) (callF "_law_times" [(binF opIx (varF 2) (binF opIx (varF 1) (conF (.int 1)))), (binF opIx (varF 1) (conF (.int 3)))])) (seqS (setS (varF 2) (binF opIx (varF 1) (conF (.int 1))) (callF "_law_less" [(binF opIx (varF 2) (binF opIx (varF 1) (conF (.int 1)))), (varF 3)])) (seqS (setS (varF 2) (binF opIx (varF 1) (conF (.int 2))) (callF "_law_plus" [(binF opIx (varF 2) (binF opIx (varF 1) (conF (.int 2)))), (varF 3)])) (seqS (retS (bltF bTuple [(varF 2)])) nxS)))))
def R__law_sold : FnRec := ⟨2, 4, F__law_sold⟩
def F__law_turn : SF := (seqS (asgS (tupT [(nmT 3), (nmT 4), (nmT 5)]) (varF 1)) (seqS (ifS (binF (opEqD false) (binF opIx (varF 2) (conF (.int 0))) (conF (.str "throw"))) (seqS (parS 7 8 (callF "_law_cost" [(varF 0), (varF 3), (varF 2)]) (binF opIx (binF opIx (varF 3) (binF opIx (varF 2) (conF (.int 1)))) (conF (.int 2)))) (seqS (setS (binF opIx (varF 3) (binF opIx (varF 2) (conF (.int 1)))) (conF (.int 1)) (binF opSub (binF opIx (binF opIx (varF 3) (binF opIx (varF 2) (conF (.int 1)))) (conF (.int 1))) (binF opIx (varF 2) (conF (.int 2))))) (seqS (forS (itE (varF 3)) (nmT 6) (seqS (setS (varF 6) (conF (.int 2)) (callF "_law_borne" [(binF opIx (varF 6) (conF (.int 2))), (varF 7), (varF 8)])) nxS)) (seqS (setS (varF 1) (conF (.int 1)) (callF "_law_borne" [(varF 4), (varF 7), (varF 8)])) nxS)))) (seqS (forS (itE (varF 3)) (nmT 6) (seqS (setS (varF 6) (conF (.int 2)) (callF "_law_sold" [(binF opIx (varF 6) (conF (.int 2))), (varF 2)])) nxS)) (seqS (setS (varF 1) (conF (.int 1)) (callF "_law_sold" [(varF 4), (varF 2)])) nxS))) nxS))
def R__law_turn : FnRec := ⟨3, 9, F__law_turn⟩
def F__law_do : SF := (seqS (asgS (tupT [(nmT 4), (nmT 5), (nmT 6)]) (varF 1)) (seqS (asgS (nmT 3) (binF opIx (varF 2) (conF (.int 0)))) (seqS (ifS (binF (opEqD false) (varF 3) (conF (.str "bring"))) (seqS (expS (methF mAppend (varF 4) [(lstF [(binF opIx (varF 2) (conF (.int 2))), (binF opIx (varF 2) (conF (.int 3))), (bltF bTuple [(lcF (it1F (binF opIx (varF 0) (conF (.int 0)))) (nmT 7) [7] (conF (.bl true)) (tupF [(bltF bInt [(binF (opEqD false) (varF 7) (binF opIx (varF 2) (conF (.int 1))))]), (conF (.int 1))]))])])])) nxS) (seqS (ifS (binF (opEqD false) (varF 3) (conF (.str "pool"))) (seqS (parS 7 8 (binF opIx (varF 4) (binF opIx (varF 2) (conF (.int 1)))) (binF opIx (varF 4) (binF opIx (varF 2) (conF (.int 2))))) (seqS (expS (methF mAppend (varF 4) [(lstF [(binF opIx (varF 7) (conF (.int 0))), (binF opAdd (binF opIx (varF 7) (conF (.int 1))) (binF opIx (varF 8) (conF (.int 1)))), (callF "_law_pooled" [(varF 7), (varF 8)])])])) (seqS (setS (varF 7) (conF (.int 1)) (conF (.int 0))) (seqS (setS (varF 8) (conF (.int 1)) (conF (.int 0))) nxS)))) (seqS (ifS (binF (opIn false) (varF 3) (tupF [(conF (.str "swap")), (conF (.str "trade"))])) (seqS (asgS (tupT [(nmT 9), (nmT 10), (nmT 11), (nmT 12)]) (slcF opSl (varF 2) (some (un1F opNeg (conF (.int 4)))) none)) (seqS (setS (binF opIx (varF 4) (varF 9)) (conF (.int 1)) (binF opSub (binF opIx (binF opIx (varF 4) (varF 9)) (conF (.int 1))) (varF 10))) (seqS (expS (methF mAppend (varF 4) [(lstF [(varF 11), (varF 12), (binF opIx (binF opIx (varF 4) (varF 9)) (conF (.int 2)))])])) (seqS (expS (methF mExtend (varF 6) [(binF opMul (slcF opSl (varF 2) (some (conF (.int 1))) (some (conF (.int 2)))) (bltF bInt [(binF (opEqD false) (varF 3) (conF (.str "trade")))]))])) nxS)))) (seqS (ifS (binF (opEqD false) (varF 3) (conF (.str "spoil"))) (seqS (setS (binF opIx (varF 4) (binF opIx (varF 2) (conF (.int 1)))) (conF (.int 1)) (binF opSub (binF opIx (binF opIx (varF 4) (binF opIx (varF 2) (conF (.int 1)))) (conF (.int 1))) (binF opIx (varF 2) (conF (.int 2))))) nxS) (seqS (expS (callF "_law_turn" [(varF 0), (varF 1), (varF 2)])) nxS)) nxS)) nxS)) nxS)) nxS)))
def R__law_do : FnRec := ⟨3, 13, F__law_do⟩
def F__law_book : SF := (seqS (asgS (nmT 2) (callF "_law_train" [(varF 0)])) (seqS (asgS (nmT 3) (callF "_law_first" [(varF 0), (varF 2)])) (seqS (parS 5 6 (callF "_law_begun" [(tupF [(varF 2), (varF 3), (tupF [])])]) (lstF [])) (seqS (forS (it1F (callF "_law_draw" [(varF 0), (binF opAdd (varF 1) (conF (.int 1)))])) (nmT 4) (seqS (asgS (nmT 7) (callF "_law_deed" [(varF 0), (varF 2), (varF 5)])) (seqS (ifS (orF (binF (opEqD true) (binF opIx (varF 7) (conF (.int 0))) (conF (.str "throw"))) (binF opLt (bltF bLen [(lcF (itE (varF 6)) (nmT 8) [8] (binF (opEqD false) (binF opIx (varF 8) (conF (.int 0))) (conF (.str "throw"))) (varF 8))]) (conF (.int 3)))) (seqS (expS (callF "_law_do" [(varF 2), (varF 5), (varF 7)])) (seqS (expS (methF mAppend (varF 6) [(varF 7)])) nxS)) nxS) nxS))) (seqS (retS (tupF [(varF 2), (varF 3), (bltF bTuple [(varF 6)])])) nxS)))))
def R__law_book : FnRec := ⟨2, 9, F__law_book⟩
def F__law_book_of_b1 : SF := (seqS (ifS (binF (opEqD true) (lcF (itE (binF opIx (varF 3) (conF (.int 2)))) (nmT 5) [5] (binF (opEqD false) (binF opIx (varF 5) (conF (.int 0))) (varF 2)) (varF 5)) (lstF [])) (seqS (retS (varF 3)) nxS) nxS) (seqS (asgS (nmT 3) (callF "_law_book" [(varF 0), (varF 1)])) nxS))
def F__law_book_of : SF := (seqS (asgS (nmT 3) (callF "_law_book" [(varF 0), (varF 1)])) (seqS (forS (it1F (conF (.int 5))) (nmT 4) F__law_book_of_b1) (seqS (retS (varF 3)) nxS)))
def R__law_book_of : FnRec := ⟨3, 6, F__law_book_of⟩
def F__law_without_b1 : SF := (seqS (ifS (binF (opEqD false) (binF opIx (varF 3) (conF (.int 0))) (conF (.str "throw"))) (seqS (expS (methF mAppend (varF 2) [(binF opAdd (tupF [(conF (.str "spoil"))]) (slcF opSl (varF 3) (some (conF (.int 1))) (some (conF (.int 3)))))])) nxS) (seqS (ifS (binF (opIn true) (binF opIx (varF 3) (conF (.int 0))) (varF 1)) (seqS (expS (methF mAppend (varF 2) [(varF 3)])) nxS) nxS) nxS)) nxS)
def F__law_without : SF := (seqS (asgS (nmT 2) (lstF [])) (seqS (forS (itE (binF opIx (varF 0) (conF (.int 2)))) (nmT 3) F__law_without_b1) (seqS (retS (binF opAdd (slcF opSl (varF 0) none (some (conF (.int 2)))) (tupF [(bltF bTuple [(varF 2)])]))) nxS)))
def R__law_without : FnRec := ⟨2, 4, F__law_without⟩
def F__law_sum : SF := (seqS (asgS (nmT 1) (tupF [(conF (.int 0)), (conF (.int 1))])) (seqS (forS (itE (varF 0)) (nmT 2) (seqS (asgS (nmT 1) (callF "_law_plus" [(varF 1), (varF 2)])) nxS)) (seqS (retS (varF 1)) nxS)))
def R__law_sum : FnRec := ⟨1, 3, F__law_sum⟩
def F__law_sums : SF := (seqS (retS (lcF (it1F (bltF bLen [(binF opIx (varF 0) (conF (.int 0)))])) (nmT 1) [1] (conF (.bl true)) (callF "_law_sum" [(lcF (itE (varF 0)) (nmT 2) [2] (conF (.bl true)) (binF opIx (varF 2) (varF 1)))]))) nxS)
def R__law_sums : FnRec := ⟨1, 3, F__law_sums⟩
def F__law_places : SF := (seqS (retS (lcF (itN (binF opIx (varF 0) (conF (.int 2)))) (tupT [(nmT 2), (nmT 3)]) [2, 3] (binF (opEqD false) (binF opIx (varF 3) (conF (.int 0))) (varF 1)) (varF 2))) nxS)
def R__law_places : FnRec := ⟨2, 4, F__law_places⟩
def F_law_b1 : SF := (seqS (ifS (binF (opEqD true) (callF "alone_of" [(callF "unsold" [(varF 3), (varF 11)]), (varF 7)]) (varF 10)) (seqS (retS (conF (.bl false))) nxS) nxS) nxS)
def F_law_b2 : SF := (seqS (asgS (nmT 10) (callF "alone_of" [(varF 3), (varF 7)])) (seqS (ifS (orF (binF (opEqD true) (callF "alone_of" [(varF 4), (varF 7)]) (varF 10)) (binF (opEqD true) (callF "theirs_by" [(varF 4), (bltF bLen [(binF opIx (varF 4) (conF (.int 2)))]), (varF 7)]) (varF 10))) (seqS (retS (conF (.bl false))) nxS) nxS) (seqS (ifS (binF (opEqD true) (callF "by_others" [(varF 4), (varF 7)]) (binF opMul (tupF [(tupF [(conF (.int 0)), (conF (.int 1))])]) (binF opIx (binF opIx (varF 3) (conF (.int 0))) (conF (.int 1))))) (seqS (retS (conF (.bl false))) nxS) nxS) (seqS (forS (itE (slcF opSl (callF "_law_places" [(varF 3), (conF (.str "sell"))]) none (some (conF (.int 2))))) (nmT 11) F_law_b1) nxS))))
def F_law_b3 : SF := (seqS (asgS (nmT 8) (lcF (itE (callF "stock_by" [(varF 6), (bltF bLen [(binF opIx (varF 6) (conF (.int 2)))])])) (nmT 12) [12] (conF (.bl true)) (tupF [(varF 12), (conF (.int 1))]))) (seqS (ifS (binF (opEqD true) (callF "_law_sums" [(lcF (itE (varF 5)) (nmT 7) [7] (conF (.bl true)) (callF "alone_of" [(varF 6), (varF 7)]))]) (varF 8)) (seqS (retS (conF (.bl false))) nxS) nxS) (seqS (asgS (nmT 9) (callF "_law_sums" [(lcF (itE (varF 5)) (nmT 7) [7] (conF (.bl true)) (callF "by_others" [(varF 6), (varF 7)]))])) (seqS (ifS (binF (opEqD true) (varF 9) (binF opMul (lstF [(tupF [(conF (.int 0)), (conF (.int 1))])]) (binF opIx (binF opIx (varF 3) (conF (.int 0))) (conF (.int 1))))) (seqS (retS (conF (.bl false))) nxS) nxS) nxS))))
def F_law_b4 : SF := (seqS (asgS (nmT 2) (callF "_law_pen" [(callF "_law_cell_at" [(varF 0), (varF 1)])])) (seqS (asgS (nmT 3) (callF "_law_book_of" [(varF 2), (conF (.int 14)), (conF (.str "sell"))])) (seqS (asgS (nmT 4) (callF "_law_without" [(varF 3), (tupF [(conF (.str "sell"))])])) (seqS (asgS (nmT 5) (lrF (binF opIx (binF opIx (varF 3) (conF (.int 0))) (conF (.int 0))))) (seqS (forS (itE (tupF [(varF 3), (varF 4)])) (nmT 6) F_law_b3) (seqS (forS (itE (varF 5)) (nmT 7) F_law_b2) nxS))))))
def F_law : SF := (seqS (forS (it1F (bltF bMax [(conF (.int 1)), (bltF bMin [(bltF bLen [(varF 0)]), (conF (.int 3))])])) (nmT 1) F_law_b4) (seqS (retS (conF (.bl true))) nxS))
def R_law : FnRec := ⟨1, 13, F_law⟩
def fns0 : List (Str × FnRec) := [(("is_whole" : PySem.Str), R_is_whole), (("is_within" : PySem.Str), R_is_within), (("common" : PySem.Str), R_common), (("made" : PySem.Str), R_made), (("plus" : PySem.Str), R_plus), (("less" : PySem.Str), R_less), (("times" : PySem.Str), R_times), (("so_many" : PySem.Str), R_so_many), (("all_of" : PySem.Str), R_all_of), (("is_partner" : PySem.Str), R_is_partner), (("lies" : PySem.Str), R_lies), (("can_do" : PySem.Str), R_can_do), (("with_less" : PySem.Str), R_with_less), (("pooled" : PySem.Str), R_pooled), (("sold_of" : PySem.Str), R_sold_of), (("borne_of" : PySem.Str), R_borne_of), (("worth_of" : PySem.Str), R_worth_of), (("cost_in" : PySem.Str), R_cost_in), (("thrown" : PySem.Str), R_thrown), (("done" : PySem.Str), R_done)]
def fns1 : List (Str × FnRec) := [(("begun" : PySem.Str), R_begun), (("after" : PySem.Str), R_after), (("wrong_in" : PySem.Str), R_wrong_in), (("need_done" : PySem.Str), R_need_done), (("need_many" : PySem.Str), R_need_many), (("need_partner" : PySem.Str), R_need_partner), (("loads_in" : PySem.Str), R_loads_in), (("theirs_in" : PySem.Str), R_theirs_in), (("theirs_by" : PySem.Str), R_theirs_by), (("given_by" : PySem.Str), R_given_by), (("do_alone" : PySem.Str), R_do_alone), (("had_alone" : PySem.Str), R_had_alone), (("alone_in" : PySem.Str), R_alone_in), (("alone_of" : PySem.Str), R_alone_of), (("by_others" : PySem.Str), R_by_others), (("need_sale" : PySem.Str), R_need_sale), (("left_out" : PySem.Str), R_left_out), (("unsold" : PySem.Str), R_unsold), (("stock_in" : PySem.Str), R_stock_in), (("stock_by" : PySem.Str), R_stock_by)]
def fns2 : List (Str × FnRec) := [(("_law_pen" : PySem.Str), R__law_pen), (("_law_cell_at" : PySem.Str), R__law_cell_at), (("_law_draw" : PySem.Str), R__law_draw), (("_law_common" : PySem.Str), R__law_common), (("_law_made" : PySem.Str), R__law_made), (("_law_whole" : PySem.Str), R__law_whole), (("_law_train" : PySem.Str), R__law_train), (("_law_pieces" : PySem.Str), R__law_pieces), (("_law_first" : PySem.Str), R__law_first), (("_law_begun" : PySem.Str), R__law_begun), (("_law_share" : PySem.Str), R__law_share), (("_law_worths" : PySem.Str), R__law_worths), (("_law_deed" : PySem.Str), R__law_deed), (("_law_plus" : PySem.Str), R__law_plus), (("_law_times" : PySem.Str), R__law_times), (("_law_pooled" : PySem.Str), R__law_pooled), (("_law_cost" : PySem.Str), R__law_cost), (("_law_less" : PySem.Str), R__law_less), (("_law_borne" : PySem.Str), R__law_borne), (("_law_sold" : PySem.Str), R__law_sold)]
def fns3 : List (Str × FnRec) := [(("_law_turn" : PySem.Str), R__law_turn), (("_law_do" : PySem.Str), R__law_do), (("_law_book" : PySem.Str), R__law_book), (("_law_book_of" : PySem.Str), R__law_book_of), (("_law_without" : PySem.Str), R__law_without), (("_law_sum" : PySem.Str), R__law_sum), (("_law_sums" : PySem.Str), R__law_sums), (("_law_places" : PySem.Str), R__law_places), (("law" : PySem.Str), R_law)]
def fns : List (Str × FnRec) := fns0 ++ fns1 ++ fns2 ++ fns3
theorem T_ex : ∃ T : Str → Option FnRec, T = tblOf fns := ⟨_, rfl⟩
noncomputable def T : Str → Option FnRec := Classical.choose T_ex
theorem T_eq : T = tblOf fns := Classical.choose_spec T_ex
theorem t_is_whole : T "is_whole" = some R_is_whole := by
  rw [T_eq]
  kernel_rfl
theorem t_is_within : T "is_within" = some R_is_within := by
  rw [T_eq]
  kernel_rfl
theorem t_common : T "common" = some R_common := by
  rw [T_eq]
  kernel_rfl
theorem t_made : T "made" = some R_made := by
  rw [T_eq]
  kernel_rfl
theorem t_plus : T "plus" = some R_plus := by
  rw [T_eq]
  kernel_rfl
theorem t_less : T "less" = some R_less := by
  rw [T_eq]
  kernel_rfl
theorem t_times : T "times" = some R_times := by
  rw [T_eq]
  kernel_rfl
theorem t_so_many : T "so_many" = some R_so_many := by
  rw [T_eq]
  kernel_rfl
theorem t_all_of : T "all_of" = some R_all_of := by
  rw [T_eq]
  kernel_rfl
theorem t_is_partner : T "is_partner" = some R_is_partner := by
  rw [T_eq]
  kernel_rfl
theorem t_lies : T "lies" = some R_lies := by
  rw [T_eq]
  kernel_rfl
theorem t_can_do : T "can_do" = some R_can_do := by
  rw [T_eq]
  kernel_rfl
theorem t_with_less : T "with_less" = some R_with_less := by
  rw [T_eq]
  kernel_rfl
theorem t_pooled : T "pooled" = some R_pooled := by
  rw [T_eq]
  kernel_rfl
theorem t_sold_of : T "sold_of" = some R_sold_of := by
  rw [T_eq]
  kernel_rfl
theorem t_borne_of : T "borne_of" = some R_borne_of := by
  rw [T_eq]
  kernel_rfl
theorem t_worth_of : T "worth_of" = some R_worth_of := by
  rw [T_eq]
  kernel_rfl
theorem t_cost_in : T "cost_in" = some R_cost_in := by
  rw [T_eq]
  kernel_rfl
theorem t_thrown : T "thrown" = some R_thrown := by
  rw [T_eq]
  kernel_rfl
theorem t_done : T "done" = some R_done := by
  rw [T_eq]
  kernel_rfl
theorem t_begun : T "begun" = some R_begun := by
  rw [T_eq]
  kernel_rfl
theorem t_after : T "after" = some R_after := by
  rw [T_eq]
  kernel_rfl
theorem t_wrong_in : T "wrong_in" = some R_wrong_in := by
  rw [T_eq]
  kernel_rfl
theorem t_need_done : T "need_done" = some R_need_done := by
  rw [T_eq]
  kernel_rfl
theorem t_need_many : T "need_many" = some R_need_many := by
  rw [T_eq]
  kernel_rfl
theorem t_need_partner : T "need_partner" = some R_need_partner := by
  rw [T_eq]
  kernel_rfl
theorem t_loads_in : T "loads_in" = some R_loads_in := by
  rw [T_eq]
  kernel_rfl
theorem t_theirs_in : T "theirs_in" = some R_theirs_in := by
  rw [T_eq]
  kernel_rfl
theorem t_theirs_by : T "theirs_by" = some R_theirs_by := by
  rw [T_eq]
  kernel_rfl
theorem t_given_by : T "given_by" = some R_given_by := by
  rw [T_eq]
  kernel_rfl
theorem t_do_alone : T "do_alone" = some R_do_alone := by
  rw [T_eq]
  kernel_rfl
theorem t_had_alone : T "had_alone" = some R_had_alone := by
  rw [T_eq]
  kernel_rfl
theorem t_alone_in : T "alone_in" = some R_alone_in := by
  rw [T_eq]
  kernel_rfl
theorem t_alone_of : T "alone_of" = some R_alone_of := by
  rw [T_eq]
  kernel_rfl
theorem t_by_others : T "by_others" = some R_by_others := by
  rw [T_eq]
  kernel_rfl
theorem t_need_sale : T "need_sale" = some R_need_sale := by
  rw [T_eq]
  kernel_rfl
theorem t_left_out : T "left_out" = some R_left_out := by
  rw [T_eq]
  kernel_rfl
theorem t_unsold : T "unsold" = some R_unsold := by
  rw [T_eq]
  kernel_rfl
theorem t_stock_in : T "stock_in" = some R_stock_in := by
  rw [T_eq]
  kernel_rfl
theorem t_stock_by : T "stock_by" = some R_stock_by := by
  rw [T_eq]
  kernel_rfl
theorem t__law_pen : T "_law_pen" = some R__law_pen := by
  rw [T_eq]
  kernel_rfl
theorem t__law_cell_at : T "_law_cell_at" = some R__law_cell_at := by
  rw [T_eq]
  kernel_rfl
theorem t__law_draw : T "_law_draw" = some R__law_draw := by
  rw [T_eq]
  kernel_rfl
theorem t__law_common : T "_law_common" = some R__law_common := by
  rw [T_eq]
  kernel_rfl
theorem t__law_made : T "_law_made" = some R__law_made := by
  rw [T_eq]
  kernel_rfl
theorem t__law_whole : T "_law_whole" = some R__law_whole := by
  rw [T_eq]
  kernel_rfl
theorem t__law_train : T "_law_train" = some R__law_train := by
  rw [T_eq]
  kernel_rfl
theorem t__law_pieces : T "_law_pieces" = some R__law_pieces := by
  rw [T_eq]
  kernel_rfl
theorem t__law_first : T "_law_first" = some R__law_first := by
  rw [T_eq]
  kernel_rfl
theorem t__law_begun : T "_law_begun" = some R__law_begun := by
  rw [T_eq]
  kernel_rfl
theorem t__law_share : T "_law_share" = some R__law_share := by
  rw [T_eq]
  kernel_rfl
theorem t__law_worths : T "_law_worths" = some R__law_worths := by
  rw [T_eq]
  kernel_rfl
theorem t__law_deed : T "_law_deed" = some R__law_deed := by
  rw [T_eq]
  kernel_rfl
theorem t__law_plus : T "_law_plus" = some R__law_plus := by
  rw [T_eq]
  kernel_rfl
theorem t__law_times : T "_law_times" = some R__law_times := by
  rw [T_eq]
  kernel_rfl
theorem t__law_pooled : T "_law_pooled" = some R__law_pooled := by
  rw [T_eq]
  kernel_rfl
theorem t__law_cost : T "_law_cost" = some R__law_cost := by
  rw [T_eq]
  kernel_rfl
theorem t__law_less : T "_law_less" = some R__law_less := by
  rw [T_eq]
  kernel_rfl
theorem t__law_borne : T "_law_borne" = some R__law_borne := by
  rw [T_eq]
  kernel_rfl
theorem t__law_sold : T "_law_sold" = some R__law_sold := by
  rw [T_eq]
  kernel_rfl
theorem t__law_turn : T "_law_turn" = some R__law_turn := by
  rw [T_eq]
  kernel_rfl
theorem t__law_do : T "_law_do" = some R__law_do := by
  rw [T_eq]
  kernel_rfl
theorem t__law_book : T "_law_book" = some R__law_book := by
  rw [T_eq]
  kernel_rfl
theorem t__law_book_of : T "_law_book_of" = some R__law_book_of := by
  rw [T_eq]
  kernel_rfl
theorem t__law_without : T "_law_without" = some R__law_without := by
  rw [T_eq]
  kernel_rfl
theorem t__law_sum : T "_law_sum" = some R__law_sum := by
  rw [T_eq]
  kernel_rfl
theorem t__law_sums : T "_law_sums" = some R__law_sums := by
  rw [T_eq]
  kernel_rfl
theorem t__law_places : T "_law_places" = some R__law_places := by
  rw [T_eq]
  kernel_rfl
theorem t_law : T "law" = some R_law := by
  rw [T_eq]
  kernel_rfl

/-- numbers of a size that the sums stay in bounds -/
structure Fit (q : Rat) : Prop where
  n : q.num.natAbs < bigM
  d : q.den < 2 ^ 4400
  dd : q.den < bigM
theorem Fit.neg {q : Rat} (h : Fit q) : Fit (-q) := ⟨by simpa using h.1, by simpa using h.2, by simpa using h.3⟩
theorem fit_den {a b : Rat} (ha : Fit a) (hb : Fit b) : a.den * b.den < bigD :=
  Nat.lt_of_lt_of_le (Nat.mul_lt_mul'' ha.2 hb.2) (by rw [← Nat.pow_add]; exact Nat.pow_le_pow_right (by decide) (by decide))
theorem fit_den1 {a : Rat} (ha : Fit a) : a.den < bigD := Nat.lt_of_lt_of_le ha.2 (Nat.pow_le_pow_right (by decide) (by decide))
theorem common_ok (k : Nat) (a b : Int) (h : Hv) (ha : 0 ≤ a) (hb : 0 ≤ b) (hs : b < 2 ^ 8900) : callK T (k + 1) "common" [.int a, .int b] h = .ok (.int (Int.gcd a b)) h := by
  have e := euclid_loop (callK T k) (binF opGt (varF 1) (conF (.int 0))) (seqS (parS 0 1 (varF 1) (binF opMod (varF 0) (varF 1))) nxS) h
    (fun a b => by simp [u_var])
    (fun a b h0 => by simp [u_var, opMod, h0]) 8900 a b wfuel ha hb hs (by decide)
  rw [callK_eq t_common]
  refine (run_rt rfl ?_).trans gc_same
  simp [R_common, F_common, whileS, e, u_var]
theorem made_ok (k : Nat) (n : Int) (d : Nat) (h : Hv) (hd : 0 < d) (hs : d < bigD) : callK T (k + 2) "made" [.int n, .int d] h = .ok (am (mkRat n d)) h := by
  rw [callK_eq t_made, ← mk_am n d (by omega)]
  have h2 : (0 : Int) ≤ (if n < 0 then -n else n) := by split <;> omega
  have e := common_ok k (if n < 0 then -n else n) d h h2 (by omega) (by unfold bigD at hs; exact_mod_cast hs)
  have g0 : 0 < Int.gcd (if n < 0 then -n else n) (d : Int) := Int.gcd_pos_of_ne_zero_right _ (by omega)
  have g1 : Int.gcd (if n < 0 then -n else n) (d : Int) < bigD := Nat.lt_of_le_of_lt (Nat.le_of_dvd hd (by have := Int.gcd_dvd_right (a := (if n < 0 then -n else n)) (b := (d : Int)); exact_mod_cast this)) hs
  refine (run_rt rfl ?_).trans gc_same
  simp only [R_made, F_made]
  generalize Int.gcd (if n < 0 then -n else n) (d : Int) = G at *
  simp [u_var, e, opFdiv, g0, g1]
theorem plus_ok (k : Nat) (a b : Rat) (h : Hv) (ha : Fit a) (hb : Fit b) : callK T (k + 3) "plus" [am a, am b] h = .ok (am (a + b)) h := by
  rw [callK_eq t_plus, Rat.add_def']
  refine (run_rt rfl ?_).trans gc_same
  have e := fun n => made_ok k n (a.den * b.den) h (Nat.mul_pos a.den_pos b.den_pos) (fit_den ha hb)
  rw [Int.natCast_mul] at e
  simp [u_var, R_plus, F_plus, mul_m, ha.1, hb.1, ha.3, hb.3, e]
theorem less_ok (k : Nat) (a b : Rat) (h : Hv) (ha : Fit a) (hb : Fit b) : callK T (k + 3) "less" [am a, am b] h = .ok (am (a - b)) h := by
  rw [callK_eq t_less, Rat.sub_def']
  refine (run_rt rfl ?_).trans gc_same
  have e := fun n => made_ok k n (a.den * b.den) h (Nat.mul_pos a.den_pos b.den_pos) (fit_den ha hb)
  rw [Int.natCast_mul] at e
  simp [u_var, R_less, F_less, mul_m, ha.1, hb.1, ha.3, hb.3, e]
theorem times_ok (k : Nat) (a b : Rat) (h : Hv) (ha : Fit a) (hb : Fit b) : callK T (k + 3) "times" [am a, am b] h = .ok (am (a * b)) h := by
  rw [callK_eq t_times, Rat.mul_def']
  refine (run_rt rfl ?_).trans gc_same
  have e := fun n => made_ok k n (a.den * b.den) h (Nat.mul_pos a.den_pos b.den_pos) (fit_den ha hb)
  rw [Int.natCast_mul] at e
  simp [u_var, R_times, F_times, mul_m, ha.1, hb.1, ha.3, hb.3, e]
theorem so_many_ok (k : Nat) (n : Int) (a : Rat) (h : Hv) (hn : n.natAbs < bigM) (ha : Fit a) : callK T (k + 3) "so_many" [.int n, am a] h = .ok (am (n * a)) h := by
  rw [callK_eq t_so_many, Rat.mul_def']
  refine (run_rt rfl ?_).trans gc_same
  have e := fun n => made_ok k n a.den h a.den_pos (fit_den1 ha)
  simp [u_var, R_so_many, F_so_many, mul_m, hn, ha.1, e]
theorem _law_common_ok (k : Nat) (a b : Int) (h : Hv) (ha : 0 ≤ a) (hb : 0 ≤ b) (hs : b < 2 ^ 8900) : callK T (k + 1) "_law_common" [.int a, .int b] h = .ok (.int (Int.gcd a b)) h := by
  have e := euclid_loop (callK T k) (binF opGt (varF 1) (conF (.int 0))) (seqS (parS 0 1 (varF 1) (binF opMod (varF 0) (varF 1))) nxS) h
    (fun a b => by simp [u_var])
    (fun a b h0 => by simp [u_var, opMod, h0]) 8900 a b wfuel ha hb hs (by decide)
  rw [callK_eq t__law_common]
  refine (run_rt rfl ?_).trans gc_same
  simp [R__law_common, F__law_common, whileS, e, u_var]
theorem _law_made_ok (k : Nat) (n : Int) (d : Nat) (h : Hv) (hd : 0 < d) (hs : d < bigD) : callK T (k + 2) "_law_made" [.int n, .int d] h = .ok (am (mkRat n d)) h := by
  rw [callK_eq t__law_made, ← mk_am n d (by omega)]
  have h2 : (0 : Int) ≤ (if n < 0 then -n else n) := by split <;> omega
  have e := _law_common_ok k (if n < 0 then -n else n) d h h2 (by omega) (by unfold bigD at hs; exact_mod_cast hs)
  have g0 : 0 < Int.gcd (if n < 0 then -n else n) (d : Int) := Int.gcd_pos_of_ne_zero_right _ (by omega)
  have g1 : Int.gcd (if n < 0 then -n else n) (d : Int) < bigD := Nat.lt_of_le_of_lt (Nat.le_of_dvd hd (by have := Int.gcd_dvd_right (a := (if n < 0 then -n else n)) (b := (d : Int)); exact_mod_cast this)) hs
  refine (run_rt rfl ?_).trans gc_same
  simp only [R__law_made, F__law_made]
  generalize Int.gcd (if n < 0 then -n else n) (d : Int) = G at *
  simp [u_var, e, opFdiv, g0, g1]
theorem _law_plus_ok (k : Nat) (a b : Rat) (h : Hv) (ha : Fit a) (hb : Fit b) : callK T (k + 3) "_law_plus" [am a, am b] h = .ok (am (a + b)) h := by
  rw [callK_eq t__law_plus, Rat.add_def']
  refine (run_rt rfl ?_).trans gc_same
  have e := fun n => _law_made_ok k n (a.den * b.den) h (Nat.mul_pos a.den_pos b.den_pos) (fit_den ha hb)
  rw [Int.natCast_mul] at e
  simp [u_var, R__law_plus, F__law_plus, mul_m, ha.1, hb.1, ha.3, hb.3, e]
theorem _law_times_ok (k : Nat) (a b : Rat) (h : Hv) (ha : Fit a) (hb : Fit b) : callK T (k + 3) "_law_times" [am a, am b] h = .ok (am (a * b)) h := by
  rw [callK_eq t__law_times, Rat.mul_def']
  refine (run_rt rfl ?_).trans gc_same
  have e := fun n => _law_made_ok k n (a.den * b.den) h (Nat.mul_pos a.den_pos b.den_pos) (fit_den ha hb)
  rw [Int.natCast_mul] at e
  simp [u_var, R__law_times, F__law_times, mul_m, ha.1, hb.1, ha.3, hb.3, e]
theorem _law_less_ok (k : Nat) (a b : Rat) (h : Hv) (ha : Fit a) (hb : Fit b) : callK T (k + 4) "_law_less" [am a, am b] h = .ok (am (a - b)) h := by
  rw [callK_eq t__law_less, Rat.sub_eq_add_neg]
  have e := _law_plus_ok k a (-b) h ha hb.neg
  have e1 : am (-b) = .tup [.int (-b.num), .int b.den] := rfl
  rw [e1] at e
  refine (run_rt rfl ?_).trans gc_same
  simp [u_var, R__law_less, F__law_less, e]

theorem _law_cell_at_ok (k : Nat) (ns : List Int) (i : Nat) (p : Nat) (h : Hv) (hp : h[p]? = some (.ro (ns.map .int))) : ∃ c : Int, callK T (k + 1) "_law_cell_at" [.ref p, .int i] h = .ok (.int c) h := by
  by_cases hi : i < ns.length
  · refine ⟨ns[i], ?_⟩
    rw [callK_eq t__law_cell_at]
    refine (run_rt rfl ?_).trans gc_same
    simp [u_var, R__law_cell_at, F__law_cell_at, u_lenr hp, hi, ix_ro _ _ _ _ hp, at_nat]
  · refine ⟨0, ?_⟩
    rw [callK_eq t__law_cell_at]
    refine (run_rt rfl ?_).trans gc_same
    simp [u_var, R__law_cell_at, F__law_cell_at, u_lenr hp, hi]
theorem _law_pen_ok (k : Nat) (c : Int) (h : Hv) : ∃ pen, PenOk pen ∧ callK T (k + 1) "_law_pen" [.int c] h = .ok (.ref h.length) (hp h pen []) := by
  refine ⟨[.int c, .int (if (10 : Int) ^ 18 ≤ c then 1 else 0), .int 0, .int (c % 1000000007)], ⟨_, _, _, _, rfl, Int.emod_nonneg _ (by decide), Int.lt_trans (Int.emod_lt_of_pos _ (by decide)) (by decide)⟩, ?_⟩
  rw [callK_eq t__law_pen]
  have e : opPow (.int 10) (.int 18) h = .ok (.int (10 ^ 18)) h := by simp [opPow, big64]
  have := gc_ref (h := h) (h1 := h) (g := [.lst [.int c, .int (if (10 : Int) ^ 18 ≤ c then 1 else 0), .int 0, .int (c % 1000000007)]]) (i := 0) rfl (fun _ _ => .inl rfl) rfl rfl
  refine (run_rt rfl ?_).trans this
  simp [u_var, R__law_pen, F__law_pen, e, mod_ok]
theorem _law_draw_ok (k : Nat) (b : Int) (h0 : Hv) (pen : List D) (g : Hv) (hb : 0 < b) (hb1 : b < 2 ^ 60) (hpn : PenOk pen) :
    ∃ (r : Int) (pen' : List D), 0 ≤ r ∧ r < b ∧ PenOk pen' ∧ callK T (k + 1) "_law_draw" [.ref h0.length, .int b] (hp h0 pen g) = .ok (.int r) (hp h0 pen' g) := by
  obtain ⟨a, f, c, d, rfl, hd0, hd1⟩ := hpn
  have hbD : b.natAbs < bigD := Nat.lt_of_lt_of_le (show b.natAbs < 2 ^ 60 by omega) (Nat.pow_le_pow_right (by decide) (by decide))
  have s0 : ∀ (x y z w : Int) (d : D), setL (.ref h0.length) (.int 0) d (hp h0 [.int x, .int y, .int z, .int w] g) = some (hp h0 [d, .int y, .int z, .int w] g) := by
    intro x y z w d
    have := setL_ok (h := hp h0 [.int x, .int y, .int z, .int w] g) (k := 0) (d := d) (hp_get ..) (by simp)
    simpa using this
  have s2 : ∀ (x y z w : Int) (d : D), setL (.ref h0.length) (.int 2) d (hp h0 [.int x, .int y, .int z, .int w] g) = some (hp h0 [.int x, .int y, d, .int w] g) := by
    intro x y z w d
    have := setL_ok (h := hp h0 [.int x, .int y, .int z, .int w] g) (k := 2) (d := d) (hp_get ..) (by simp)
    simpa using this
  have gx : ∀ (ds : List D) (i : Int), opIx (.ref h0.length) (.int i) (hp h0 ds g) = om (atI ds i) (fun d => .ok d (hp h0 ds g)) .stuck := fun ds i => ix_ref _ _ _ _ (hp_get ..)
  by_cases h1 : f = 1 ∧ 0 < a
  · obtain ⟨rfl, h1⟩ := h1
    refine ⟨a % b, [.int (a / b), .int 1, .int c, .int d], Int.emod_nonneg _ (by omega), Int.emod_lt_of_pos _ hb, ⟨_, _, _, _, rfl, hd0, hd1⟩, ?_⟩
    rw [callK_eq t__law_draw]
    refine (run_rt rfl ?_).trans (gc_hp0 rfl rfl)
    simp [u_var, R__law_draw, F__law_draw, gx, h1, mod_ok hb, fdiv_ok hb hbD, s0]
  · refine ⟨(((d + 17) * (69621 + 2 * (c + 1)) % 2147483647) * ((d + 17) * (69621 + 2 * (c + 1)) % 2147483647) + 40503 * (c + 1) + 5) % 2147483629 * 48271 % 2147483647 / 32 % b, [.int a, .int f, .int (c + 1), .int d], Int.emod_nonneg _ (by omega), Int.emod_lt_of_pos _ hb, ⟨_, _, _, _, rfl, hd0, hd1⟩, ?_⟩
    · rw [callK_eq t__law_draw]
      refine (run_rt rfl ?_).trans (gc_hp0 rfl rfl)
      have m1 : ∀ (y : Int) (h : Hv), opMul (.int (d + 17)) (.int y) h = .ok (.int ((d + 17) * y)) h := fun y h => mul_s (by unfold big64; omega)
      have m2 : ∀ (y : Int) (h : Hv), opMul (.int 2) (.int y) h = .ok (.int (2 * y)) h := fun y h => mul_s (by unfold big64; omega)
      have m3 : ∀ (x y : Int) (h : Hv), opMul (.int (x % 2147483647)) (.int y) h = .ok (.int (x % 2147483647 * y)) h := fun x y h => mul_s (by unfold big64; omega)
      have m4 : ∀ (y : Int) (h : Hv), opMul (.int 40503) (.int y) h = .ok (.int (40503 * y)) h := fun y h => mul_s (by unfold big64; omega)
      have m5 : ∀ (y : Int) (h : Hv), opMul (.int y) (.int 48271) h = .ok (.int (y * 48271)) h := fun y h => mul_t (by unfold big64; omega)
      have d1 : ∀ (y : Int) (h : Hv), opFdiv (.int y) (.int 32) h = .ok (.int (y / 32)) h := fun y h => fdiv_ok (by omega) (Nat.lt_of_lt_of_le (show (32 : Int).natAbs < 2 ^ 60 by decide) (Nat.pow_le_pow_right (by decide) (by decide)))
      have o1 : ∀ (x : Int) (h : Hv), opMod (.int x) (.int 2147483647) h = .ok (.int (x % 2147483647)) h := fun x h => mod_ok (by decide)
      have o2 : ∀ (x : Int) (h : Hv), opMod (.int x) (.int 2147483629) h = .ok (.int (x % 2147483629)) h := fun x h => mod_ok (by decide)
      by_cases hf : f = 1
      · have ha : ¬ 0 < a := fun h2 => h1 ⟨hf, h2⟩
        subst hf
        simp [u_var, R__law_draw, F__law_draw, gx, ha, s2, m1, m2, m3, m4, m5, o1, o2, d1, mod_ok hb]
      · simp [u_var, R__law_draw, F__law_draw, gx, hf, s2, m1, m2, m3, m4, m5, o1, o2, d1, mod_ok hb]

@[simp] theorem g_at (g : Hv) (x : Ob) (g1 : Hv) : (g ++ x :: g1)[g.length]? = some x := by simp
@[simp] theorem g_set (g : Hv) (x y : Ob) (g1 : Hv) : (g ++ x :: g1).set g.length y = g ++ y :: g1 := by simp [List.set_append]
theorem last_at (h : Hv) (x : Ob) : (h ++ [x])[h.length]? = some x := by simp
theorem itE_l {C : Or} {env : Env} {h : Hv} {a : EF} {p : Nat} {ds : List D} (ha : a C env h = .ok (.ref p) h) (hp : h[p]? = some (.lst ds)) : itE a C env h = .ok (ds, [(p, ds)]) h := by
  simp only [itE, ha, bind_ok, seqOf, hp]
/-- a list comprehension whose elements are drawn -/
theorem lc_draw {α : Type} {C : Or} {env : Env} {tg : TF} {elt : EF} {h0 g : Hv} (P : α → Prop) (enc : α → D) : ∀ (xs : List D) (acc : List D) (pen : List D) (g1 : Hv),
    (∀ x ∈ xs, ∃ env1, (∀ hh, tg x env hh = some env1) ∧ ∀ pen g', PenOk pen → ∃ (y : α) (pen' : List D) (g2 : Hv), P y ∧ PenOk pen' ∧ elt C env1 (hp h0 pen g') = .ok (enc y) (hp h0 pen' (g' ++ g2))) →
    PenOk pen → acc.length + xs.length ≤ 1000000 →
    ∃ (ys : List α) (pen' : List D) (g2 : Hv), ys.length = xs.length ∧ (∀ y ∈ ys, P y) ∧ PenOk pen' ∧
      lcLoop C env tg (conF (.bl true)) elt [] (h0.length + 1 + g.length) xs (hp h0 pen (g ++ .lst acc :: g1)) = .ok () (hp h0 pen' (g ++ .lst (acc ++ ys.map enc) :: g2))
  | [], acc, pen, g1, _, hp0, _ => ⟨[], pen, g1, rfl, by simp, hp0, by simp [lcLoop]⟩
  | x :: xs, acc, pen, g1, hel, hp0, hl => by
    have hl' : acc.length + (xs.length + 1) ≤ 1000000 := hl
    obtain ⟨env1, e1, he⟩ := hel x (by simp)
    obtain ⟨y, pen1, g2, py, hp1, e2⟩ := he pen (g ++ .lst acc :: g1) hp0
    obtain ⟨ys, pen2, g3, l3, p3, hp3, e3⟩ := lc_draw P enc xs (acc ++ [enc y]) pen1 (g1 ++ g2) (fun x hx => hel x (by simp [hx])) hp1 (by simp; omega)
    refine ⟨y :: ys, pen2, g3, by simp [l3], by simpa using ⟨py, p3⟩, hp3, ?_⟩
    rw [lcLoop, if_pos (g_nil _), e1]
    simp only [u_con, bind_ok, e2]
    have e4 : (hp h0 pen1 (g ++ Ob.lst acc :: g1 ++ g2))[h0.length + 1 + g.length]? = some (.lst acc) := by
      rw [hp_get1, List.append_assoc]; simp
    simp only [e4]
    rw [if_pos (by unfold szl; omega), hp_set1, List.append_assoc, List.cons_append, g_set, e3]
    simp
theorem lc_drawn {α : Type} {C : Or} {env : Env} {it : IF} {tg : TF} {own : List Nat} {elt : EF} {h0 g : Hv} {pen : List D} (P : α → Prop) (enc : α → D) (xs : List D)
    (hit : it C env (hp h0 pen g) = .ok (xs, []) (hp h0 pen g))
    (hel : ∀ x ∈ xs, ∃ env1, (∀ hh, tg x (wipeD env own) hh = some env1) ∧ ∀ pen g', PenOk pen → ∃ (y : α) (pen' : List D) (g2 : Hv), P y ∧ PenOk pen' ∧ elt C env1 (hp h0 pen g') = .ok (enc y) (hp h0 pen' (g' ++ g2)))
    (hp0 : PenOk pen) (hl : xs.length ≤ 1000000) :
    ∃ (ys : List α) (pen' : List D) (g2 : Hv), ys.length = xs.length ∧ (∀ y ∈ ys, P y) ∧ PenOk pen' ∧
      lcF it tg own (conF (.bl true)) elt C env (hp h0 pen g) = .ok (.ref (h0.length + 1 + g.length)) (hp h0 pen' (g ++ .lst (ys.map enc) :: g2)) := by
  obtain ⟨ys, pen2, g3, l3, p3, hp3, e3⟩ := lc_draw (g := g) P enc xs [] pen [] hel hp0 (by simpa using hl)
  refine ⟨ys, pen2, g3, l3, p3, hp3, ?_⟩
  rw [lcF, hit]
  simp only [bind_ok, hp_app, hp_len]
  rw [e3]
  rfl
/-- a share: of a whole cut into M -/
def Sh (M : Nat) (q : Rat) : Prop := q.den ∣ M ∧ 0 ≤ q ∧ q ≤ 1
theorem bigM_le {n k : Nat} (h : n < 2 ^ k) (hk : k ≤ 8900) : n < bigD := Nat.lt_of_lt_of_le h (Nat.pow_le_pow_right (by decide) hk)
theorem sh_mk {w : Int} {s : Nat} (hs : 0 < s) (h0 : 0 ≤ w) (h1 : w ≤ s) : Sh s (mkRat w s) := by
  refine ⟨?_, ?_, ?_⟩
  · rw [Rat.den_mkRat, if_neg (by omega)]
    exact Nat.div_dvd_of_dvd (Nat.gcd_dvd_left ..)
  · rw [← Rat.num_nonneg, Rat.num_mkRat, if_neg (by omega)]
    exact Int.ediv_nonneg h0 (by omega)
  · rw [Rat.mkRat_eq_div, ← Rat.not_lt, Rat.lt_div_iff (by exact_mod_cast hs)]
    have : ((w : Int) : Rat) ≤ ((s : Int) : Rat) := Rat.intCast_le_intCast.2 h1
    rw [Rat.not_lt, Rat.one_mul]
    exact this
theorem mk_add (n m : Int) (M : Nat) (h : 0 < M) : mkRat n M + mkRat m M = mkRat (n + m) M := by
  rw [Rat.mkRat_add_mkRat _ _ (by omega) (by omega), ← Int.add_mul, Rat.mkRat_mul_right (by omega)]
theorem mk_self (s : Nat) (h : 0 < s) : mkRat (s : Int) s = 1 := by
  have := Rat.mkRat_mul_right (n := 1) (d := 1) (a := s) (by omega)
  rw [Int.one_mul, Nat.one_mul] at this
  rw [this]; rfl
theorem sum_mk : ∀ (ws : List Int) (s : Nat), 0 < s → (ws.map fun w => mkRat w s).sum = mkRat ws.sum s
  | [], s, _ => by simp
  | w :: ws, s, h => by rw [List.map_cons, List.sum_cons, List.sum_cons, sum_mk ws s h, mk_add _ _ _ h]
theorem _law_whole_ok (k : Nat) (n : Nat) (h0 : Hv) (pen : List D) (g : Hv) (hn : 0 < n) (hn1 : n ≤ 1000) (hpn : PenOk pen) :
    ∃ (s : Nat) (qs : List Rat) (pen' : List D), 0 < s ∧ s ≤ 8 * n + 1 ∧ qs.length = n ∧ (∀ q ∈ qs, Sh s q) ∧ qs.sum = 1 ∧ PenOk pen' ∧
      callK T (k + 3) "_law_whole" [.ref h0.length, .int n] (hp h0 pen g) = .ok (.tup (qs.map am)) (hp h0 pen' g) := by
  obtain ⟨ws, pen1, g1, l1, p1, hp1, e1⟩ := lc_drawn (C := callK T (k + 2)) (env := [some (.ref h0.length), some (.int n), none, none, none]) (it := it1F (varF 1)) (tg := nmT 3) (own := [3])
    (elt := binF opIx (lstF [(conF (.int 0)), (conF (.int 1)), (callF "_law_draw" [(varF 0), (conF (.int 4))]), (callF "_law_draw" [(varF 0), (conF (.int 9))])]) (callF "_law_draw" [(varF 0), (conF (.int 4))]))
    (h0 := h0) (g := g) (pen := pen) (fun w : Int => 0 ≤ w ∧ w ≤ 8) .int ((List.range n).map fun i => .int (i : Nat))
    (it1_ok (n := n) (by simp [u_var]) (by omega))
    (by
      intro x hx
      refine ⟨[some (.ref h0.length), some (.int n), none, some x, none], fun hh => by simp [wipeD], ?_⟩
      intro pen g' hp0
      obtain ⟨r1, pen1, a1, b1, hp1, e1⟩ := _law_draw_ok (k + 1) 4 h0 pen g' (by decide) (by decide) hp0
      obtain ⟨r2, pen2, a2, b2, hp2, e2⟩ := _law_draw_ok (k + 1) 9 h0 pen1 g' (by decide) (by decide) hp1
      obtain ⟨r3, pen3, a3, b3, hp3, e3⟩ := _law_draw_ok (k + 1) 4 h0 pen2 (g' ++ [.lst [.int 0, .int 1, .int r1, .int r2]]) (by decide) (by decide) hp2
      have hx := ix_ref (hp h0 pen3 (g' ++ [.lst [.int 0, .int 1, .int r1, .int r2]])) r3 (h0.length + 1 + g'.length) [.int 0, .int 1, .int r1, .int r2] (by rw [hp_get1]; simp)
      have hr : r3 = 0 ∨ r3 = 1 ∨ r3 = 2 ∨ r3 = 3 := by omega
      have fin : ∀ w : Int, atI [D.int 0, .int 1, .int r1, .int r2] r3 = some (.int w) → binF opIx (lstF [(conF (.int 0)), (conF (.int 1)), (callF "_law_draw" [(varF 0), (conF (.int 4))]), (callF "_law_draw" [(varF 0), (conF (.int 9))])]) (callF "_law_draw" [(varF 0), (conF (.int 4))]) (callK T (k + 2)) [some (.ref h0.length), some (.int n), none, some x, none] (hp h0 pen g') = .ok (.int w) (hp h0 pen3 (g' ++ [.lst [.int 0, .int 1, .int r1, .int r2]])) := by
        intro w hw
        rw [hw] at hx
        simp [u_var, e1, e2, e3, hx]
      rcases hr with rfl | rfl | rfl | rfl
      · exact ⟨0, pen3, _, by omega, hp3, fin 0 (by simp)⟩
      · exact ⟨1, pen3, _, by omega, hp3, fin 1 (by simp)⟩
      · exact ⟨r1, pen3, _, by omega, hp3, fin r1 (by simp)⟩
      · exact ⟨r2, pen3, _, by omega, hp3, fin r2 (by simp)⟩)
    hpn (by simp; omega)
  rw [List.length_map, List.length_range] at l1
  /- the tail, whatever the weights are -/
  have tail : ∀ (ws : List Int) (pen2 : List D), ws.length = n → (∀ w ∈ ws, 0 ≤ w ∧ w ≤ 8) → 0 < ws.sum → PenOk pen2 →
      ∃ (s : Nat) (qs : List Rat), 0 < s ∧ s ≤ 8 * n + 1 ∧ qs.length = n ∧ (∀ q ∈ qs, Sh s q) ∧ qs.sum = 1 ∧
      ∃ g2, seqS (retS (bltF bTuple [(lcF (itE (varF 2)) (nmT 4) [4] (conF (.bl true)) (callF "_law_made" [(varF 4), (bltF bSum [(varF 2)])]))])) nxS (callK T (k + 2)) [some (.ref h0.length), some (.int n), some (.ref (h0.length + 1 + g.length)), none, none] (hp h0 pen2 (g ++ .lst (ws.map .int) :: g1)) = .rt (.tup (qs.map am)) (hp h0 pen2 (g ++ g2)) := by
    intro ws pen2 hl hw hs hp2
    have hbd : ∀ ws : List Int, (∀ w ∈ ws, 0 ≤ w ∧ w ≤ 8) → ws.sum ≤ 8 * ws.length ∧ (∀ w ∈ ws, w ≤ ws.sum) ∧ 0 ≤ ws.sum := by
      intro ws
      induction ws with
      | nil => simp
      | cons w ws ih =>
        intro h
        obtain ⟨i1, i2, i3⟩ := ih (fun w hw => h w (by simp [hw]))
        have hw := h w (by simp)
        refine ⟨by simp; omega, ?_, by simp; omega⟩
        intro x hx
        rcases List.mem_cons.1 hx with rfl | hx
        · simp; omega
        · have := i2 x hx
          simp; omega
    obtain ⟨b1, b2, b3⟩ := hbd ws hw
    obtain ⟨s, es⟩ := Int.eq_ofNat_of_zero_le b3
    refine ⟨s, ws.map fun w => mkRat w s, by omega, by omega, by simpa using hl, ?_, by rw [sum_mk _ _ (by omega), es, mk_self _ (by omega)], ?_⟩
    · intro q hq
      obtain ⟨w, hw1, rfl⟩ := List.mem_map.1 hq
      exact sh_mk (by omega) (hw w hw1).1 (by have := b2 w hw1; omega)
    · have lk : ∀ g3 : Hv, (hp h0 pen2 (g ++ .lst (ws.map .int) :: g1 ++ g3))[h0.length + 1 + g.length]? = some (.lst (ws.map .int)) := by
        intro g3; rw [hp_get1, List.append_assoc]; simp
      have lk0 := lk []
      rw [List.append_nil] at lk0
      have e2 := lc_all (C := callK T (k + 2)) (env := [some (.ref h0.length), some (.int n), some (.ref (h0.length + 1 + g.length)), none, none]) (it := itE (varF 2)) (tg := nmT 4) (own := [4]) (elt := callF "_law_made" [(varF 4), (bltF bSum [(varF 2)])])
        (gs := [(h0.length + 1 + g.length, ws.map .int)]) (h := hp h0 pen2 (g ++ .lst (ws.map .int) :: g1)) (h1 := hp h0 pen2 (g ++ .lst (ws.map .int) :: g1)) ws .int (fun w => am (mkRat w s)) (fun w => [some (.ref h0.length), some (.int n), some (.ref (h0.length + 1 + g.length)), none, some (.int w)])
        (itE_l (by simp [u_var]) lk0)
        (by intro acc; simp only [guardsOk, List.all_cons, List.all_nil, Bool.and_true, hp_app, lk]; simp)
        (by intro w hw acc; simp [wipeD])
        (by
          intro w hw acc
          have em := _law_made_ok k w s (hp h0 pen2 (g ++ .lst (ws.map .int) :: g1 ++ [.lst acc])) (by omega) (bigM_le (k := 60) (by omega) (by decide))
          have es1 := u_sum (lk [.lst acc])
          rw [es] at es1
          simp only [List.append_assoc, List.cons_append] at em es1
          simp [u_var, em, es1])
        (by omega)
      refine ⟨.lst (ws.map .int) :: g1 ++ [.lst (ws.map fun w => am (mkRat w s))], ?_⟩
      have et := u_tuplel (p := (hp h0 pen2 (g ++ .lst (ws.map .int) :: g1)).length) (ds := ws.map fun w => am (mkRat w s)) (h := hp h0 pen2 (g ++ .lst (ws.map .int) :: g1) ++ [.lst (ws.map fun w => am (mkRat w s))]) (last_at _ _)
      simp only [u_seq, u_ret, u_blt, u_list, u_list0, e2, bind_ok, et, thenS_ok, nxt_rt]
      simp
  have hrun : ∀ (pen' : List D) (qs : List Rat) (g2 : Hv), PenOk pen' → F__law_whole (callK T (k + 2)) [some (.ref h0.length), some (.int n), none, none, none] (hp h0 pen g) = .rt (.tup (qs.map am)) (hp h0 pen' (g ++ g2)) → callK T (k + 3) "_law_whole" [.ref h0.length, .int n] (hp h0 pen g) = .ok (.tup (qs.map am)) (hp h0 pen' g) := by
    intro pen' qs g2 hp' e
    rw [callK_eq t__law_whole]
    refine (run_rt rfl e).trans (gc_hp ?_ hp'.grs)
    show D.grs _ = true
    clear e
    induction qs with
    | nil => rfl
    | cons q qs ih => simpa [D.grs] using ih
  have lk1 : (hp h0 pen1 (g ++ .lst (ws.map .int) :: g1))[h0.length + 1 + g.length]? = some (.lst (ws.map .int)) := by rw [hp_get1]; simp
  by_cases hz : ws.sum = 0
  · obtain ⟨r, pen2, r0, r1, hp2, e2⟩ := _law_draw_ok (k + 1) n h0 pen1 (g ++ .lst (ws.map .int) :: g1) (by omega) (by omega) hp1
    obtain ⟨r, rfl⟩ := Int.eq_ofNat_of_zero_le r0
    have hmem : ∀ w ∈ ws.set r 1, 0 ≤ w ∧ w ≤ 8 := by
      intro w hw
      rcases List.mem_or_eq_of_mem_set hw with h | rfl
      · exact p1 w h
      · omega
    have hpos : ∀ (ws : List Int) (r : Nat), (∀ w ∈ ws, 0 ≤ w) → r < ws.length → 0 < (ws.set r 1).sum := by
      intro ws
      induction ws with
      | nil => intro r _ h; simp at h
      | cons w ws ih =>
        intro r h hr
        have nn : ∀ ws : List Int, (∀ w ∈ ws, 0 ≤ w) → 0 ≤ ws.sum := by
          intro ws
          induction ws with
          | nil => simp
          | cons w ws ih => intro h; have := ih (fun w hw => h w (by simp [hw])); have := h w (by simp); simp; omega
        cases r with
        | zero => have := nn ws (fun w hw => h w (by simp [hw])); simp; omega
        | succ r => have := ih r (fun w hw => h w (by simp [hw])) (by simpa using hr); have := h w (by simp); simp; omega
    obtain ⟨s, qs, s0, s1, s2, s3, s4, g2, e3⟩ := tail (ws.set r 1) pen2 (by simpa using l1) hmem (hpos ws r (fun w hw => (p1 w hw).1) (by omega)) hp2
    refine ⟨s, qs, pen2, s0, s1, s2, s3, s4, hp2, hrun pen2 qs g2 hp2 ?_⟩
    have es := u_sum lk1
    rw [hz] at es
    have st := setL_ok (p := h0.length + 1 + g.length) (ds := ws.map D.int) (k := r) (d := .int 1) (h := hp h0 pen2 (g ++ .lst (ws.map .int) :: g1)) (by rw [hp_get1]; simp) (by simp; omega)
    rw [hp_set1, g_set] at st
    rw [List.map_set] at e3
    simp only [F__law_whole]
    rw [u_seq, u_asg, e1]
    simp only [thenS_ok, u_nm, List.length_cons, List.length_nil, Nat.reduceAdd, Nat.reduceLT, if_true, om_some, nxt_nx, List.set_cons_succ, List.set_cons_zero]
    rw [u_seq, u_if]
    simp only [u_bin, u_blt, u_list, u_list0, u_var, List.getElem?_cons_succ, List.getElem?_cons_zero, bind_ok, es, u_con, u_eqI, decide_true, thenS_ok, bm_bl, if_true, u_seq, u_setS, u_call, e2, st, om_some, u_nx, nxt_nx]
    simpa using e3
  · obtain ⟨s, qs, s0, s1, s2, s3, s4, g2, e3⟩ := tail ws pen1 l1 p1 (by
      have nn : ∀ ws : List Int, (∀ w ∈ ws, 0 ≤ w ∧ w ≤ 8) → 0 ≤ ws.sum := by
        intro ws
        induction ws with
        | nil => simp
        | cons w ws ih => intro h; have := ih (fun w hw => h w (by simp [hw])); have := h w (by simp); simp; omega
      have := nn ws p1
      omega) hp1
    refine ⟨s, qs, pen1, s0, s1, s2, s3, s4, hp1, hrun pen1 qs g2 hp1 ?_⟩
    have es := u_sum lk1
    simp only [F__law_whole]
    rw [u_seq, u_asg, e1]
    simp only [thenS_ok, u_nm, List.length_cons, List.length_nil, Nat.reduceAdd, Nat.reduceLT, if_true, om_some, nxt_nx, List.set_cons_succ, List.set_cons_zero]
    rw [u_seq, u_if]
    simp only [u_bin, u_blt, u_list, u_list0, u_var, List.getElem?_cons_succ, List.getElem?_cons_zero, bind_ok, es, u_con, u_eqI, hz, decide_false, thenS_ok, bm_bl, u_nx, nxt_nx]
    simpa using e3

/-! shares of a whole -/
theorem Sh.fit {M : Nat} {q : Rat} (h : Sh M q) (h0 : 0 < M) (h1 : M < 2 ^ 4400) : Fit q := by
  have hd : q.den < 2 ^ 4400 := Nat.lt_of_le_of_lt (Nat.le_of_dvd h0 h.1) h1
  have hd' : q.den < bigM := Nat.lt_of_lt_of_le hd (Nat.pow_le_pow_right (by decide) (by decide))
  refine ⟨?_, hd, hd'⟩
  have hn : 0 ≤ q.num := Rat.num_nonneg.2 h.2.1
  have h2 : q.num ≤ q.den := by
    have := h.2.2
    rw [Rat.le_iff] at this
    simpa using this
  omega
theorem den_mul_dvd (a b : Rat) : (a * b).den ∣ a.den * b.den := by
  rw [Rat.mul_def', Rat.den_mkRat]
  split
  · exact Nat.one_dvd _
  · exact Nat.div_dvd_of_dvd (Nat.gcd_dvd_left ..)
theorem den_mk_dvd (n : Int) (d : Nat) : (mkRat n d).den ∣ d := by
  rw [Rat.den_mkRat]
  split
  · rename_i h; subst h; exact Nat.dvd_zero _
  · exact Nat.div_dvd_of_dvd (Nat.gcd_dvd_left ..)
/-- both over M -/
theorem over {M : Nat} (h0 : 0 < M) {q : Rat} (h : q.den ∣ M) : ∃ n : Int, q = mkRat n M := by
  obtain ⟨c, rfl⟩ := h
  have hc : c ≠ 0 := by intro h; subst h; simp at h0
  refine ⟨q.num * c, ?_⟩
  rw [Rat.mkRat_mul_right hc, Rat.mkRat_self]
theorem den_add_dvd {M : Nat} (h0 : 0 < M) {a b : Rat} (ha : a.den ∣ M) (hb : b.den ∣ M) : (a + b).den ∣ M := by
  obtain ⟨n, rfl⟩ := over h0 ha
  obtain ⟨m, rfl⟩ := over h0 hb
  have : mkRat n M + mkRat m M = mkRat (n + m) M := by
    rw [Rat.mkRat_add_mkRat _ _ (by omega) (by omega), ← Int.add_mul, Rat.mkRat_mul_right (by omega)]
  rw [this]
  exact den_mk_dvd _ _
theorem Sh.mul {M W : Nat} {a b : Rat} (ha : Sh M a) (hb : Sh W b) : Sh (M * W) (a * b) := by
  refine ⟨Nat.dvd_trans (den_mul_dvd a b) (Nat.mul_dvd_mul ha.1 hb.1), Rat.mul_nonneg ha.2.1 hb.2.1, ?_⟩
  have := Rat.mul_le_mul_of_nonneg_left hb.2.2 ha.2.1
  have h1 := ha.2.2
  grind
theorem Sh.compl {W : Nat} {p : Rat} (h0 : 0 < W) (h : Sh W p) : Sh W (1 - p) := by
  refine ⟨?_, ?_, ?_⟩
  · rw [Rat.sub_eq_add_neg]
    exact den_add_dvd h0 (Nat.one_dvd _) (by simpa using h.1)
  · have := h.2.2; grind
  · have := h.2.1; grind
theorem Sh.borne {M W : Nat} {s o p : Rat} (h0 : 0 < M) (h1 : 0 < W) (hs : Sh M s) (ho : Sh M o) (hp : Sh W p) : Sh (M * W) (s * (1 - p) + o * p) := by
  have a := hs.mul (hp.compl h1)
  have b := ho.mul hp
  refine ⟨den_add_dvd (Nat.mul_pos h0 h1) a.1 b.1, ?_, ?_⟩
  · have := a.2.1; have := b.2.1; grind
  · have h2 := Rat.mul_le_mul_of_nonneg_right hs.2.2 (hp.compl h1).2.1
    have h3 := Rat.mul_le_mul_of_nonneg_right ho.2.2 hp.2.1
    grind
theorem Sh.mono {M N : Nat} {q : Rat} (h : Sh M q) (hd : M ∣ N) : Sh N q := ⟨Nat.dvd_trans h.1 hd, h.2⟩
/-- a share that is not beyond all bounds -/
def Sc (M : Nat) (q : Rat) : Prop := q.den ∣ M ∧ 0 ≤ q ∧ q ≤ ((2 ^ 64 : Nat) : Rat)
theorem fit_le {M n : Nat} {q : Rat} (hd : q.den ∣ M) (h0 : 0 ≤ q) (h1 : q ≤ (n : Rat)) (hM : 0 < M) (hM1 : M < 2 ^ 4400) (hn : n < 2 ^ 4400) : Fit q := by
  have hd1 : q.den < 2 ^ 4400 := Nat.lt_of_le_of_lt (Nat.le_of_dvd hM hd) hM1
  have hd' : q.den < bigM := Nat.lt_of_lt_of_le hd1 (Nat.pow_le_pow_right (by decide) (by decide))
  refine ⟨?_, hd1, hd'⟩
  have hn0 : 0 ≤ q.num := Rat.num_nonneg.2 h0
  have h2 : q.num ≤ n * q.den := by
    rw [Rat.le_iff] at h1
    simpa using h1
  have h3 : q.num.natAbs ≤ n * q.den := by
    have : ((n * q.den : Nat) : Int) = n * q.den := by simp
    omega
  refine Nat.lt_of_le_of_lt h3 (Nat.lt_of_lt_of_le (Nat.mul_lt_mul'' hn hd1) ?_)
  rw [← Nat.pow_add]
  exact Nat.pow_le_pow_right (by decide) (by decide)
theorem Sc.fit {M : Nat} {q : Rat} (h : Sc M q) (h0 : 0 < M) (h1 : M < 2 ^ 4400) : Fit q := fit_le h.1 h.2.1 h.2.2 h0 h1 (Nat.pow_lt_pow_right (by decide) (by decide))
theorem Sc.mul {M W : Nat} {a b : Rat} (ha : Sc M a) (hb : Sh W b) : Sc (M * W) (a * b) := by
  refine ⟨Nat.dvd_trans (den_mul_dvd a b) (Nat.mul_dvd_mul ha.1 hb.1), Rat.mul_nonneg ha.2.1 hb.2.1, ?_⟩
  have := Rat.mul_le_mul_of_nonneg_left hb.2.2 ha.2.1
  have h1 := ha.2.2
  grind
theorem Sc.mono {M N : Nat} {q : Rat} (h : Sc M q) (hd : M ∣ N) : Sc N q := ⟨Nat.dvd_trans h.1 hd, h.2⟩
theorem Sh.sc {M : Nat} {q : Rat} (h : Sh M q) : Sc M q := ⟨h.1, h.2.1, by
  have h2 := h.2.2
  have : (1 : Rat) ≤ ((2 ^ 64 : Nat) : Rat) := by decide +kernel
  grind⟩
/-! loads -/
structure Ld where
  k : Nat
  n : Int
  sh : List Rat
def shD (qs : List Rat) : D := .tup (qs.map am)
def ldD (l : Ld) : D := .tup [.int l.k, .int l.n, shD l.sh]
def lsD (ls : List Ld) : D := .tup (ls.map ldD)
def wsD (ws : List Int) : D := .tup (ws.map .int)
theorem shD_gr (qs) : (shD qs).gr = true := by
  show D.grs _ = true
  induction qs with
  | nil => rfl
  | cons q qs ih => simpa [D.grs] using ih
theorem ldD_gr (l) : (ldD l).gr = true := by simp [ldD, D.gr, D.grs, shD_gr]
theorem lsD_gr (ls) : (lsD ls).gr = true := by
  show D.grs _ = true
  induction ls with
  | nil => rfl
  | cons q qs ih => simpa [D.grs, ldD_gr] using ih
theorem ix_ls {ls : List Ld} {a : Nat} {l : Ld} {h : Hv} (hl : ls[a]? = some l) : opIx (lsD ls) (.int a) h = .ok (ldD l) h := by
  rw [lsD, ix_tup, at_nat, List.getElem?_map, hl]; rfl
theorem ix_ws {ws : List Int} {a : Nat} {w : Int} {h : Hv} (hl : ws[a]? = some w) : opIx (wsD ws) (.int a) h = .ok (.int w) h := by
  rw [wsD, ix_tup, at_nat, List.getElem?_map, hl]; rfl
theorem ix_wl {ws : List Int} {w : Int} {h : Hv} : opIx (wsD (ws ++ [w])) (.int (-1)) h = .ok (.int w) h := by
  rw [wsD, ix_tup, List.map_append, List.map_singleton, at_last]; rfl
@[simp] theorem ix_l0 (l : Ld) (h : Hv) : opIx (ldD l) (.int 0) h = .ok (.int l.k) h := by simp [ldD]
@[simp] theorem ix_l1 (l : Ld) (h : Hv) : opIx (ldD l) (.int 1) h = .ok (.int l.n) h := by simp [ldD]
@[simp] theorem ix_l2 (l : Ld) (h : Hv) : opIx (ldD l) (.int 2) h = .ok (shD l.sh) h := by simp [ldD]
@[simp] theorem len_ls (ls : List Ld) (h : Hv) : bLen [lsD ls] h = .ok (.int ls.length) h := by simp [lsD]
theorem lies_ok (k : Nat) (ls : List Ld) (a : Nat) (l : Ld) (m : Int) (h : Hv) (hl : ls[a]? = some l) : callK T (k + 1) "lies" [lsD ls, .int a, .int m] h = .ok (.bl (decide (m ≤ l.n))) h := by
  rw [callK_eq t_lies]
  have ha : a < ls.length := (List.getElem?_eq_some_iff.1 hl).1
  refine (run_rt rfl ?_).trans gc_same
  simp [u_var, R_lies, F_lies, ix_ls hl, ha]
theorem cut_lo {α : Type} (xs : List α) (a : Nat) : cutD xs none (some (a : Int)) = xs.take a := by
  simp [cutD, HT.sIx_none, HT.sIx_nat]
theorem cut_hi {α : Type} (xs : List α) (a : Nat) : cutD xs (some (a : Int)) none = xs.drop a := by
  simp only [cutD, HT.sIx_none, HT.sIx_nat]
  rcases Nat.le_total a xs.length with h | h
  · rw [Nat.min_eq_left h, List.take_of_length_le (by simp)]
  · rw [Nat.min_eq_right h, List.drop_of_length_le h]; simp
def lessL (ls : List Ld) (a : Nat) (l : Ld) (m : Int) : List Ld := ls.set a ⟨l.k, l.n - m, l.sh⟩
theorem with_less_ok (k : Nat) (ls : List Ld) (a : Nat) (l : Ld) (m : Int) (h : Hv) (hl : ls[a]? = some l) (hn : ls.length ≤ 1000) : callK T (k + 1) "with_less" [lsD ls, .int a, .int m] h = .ok (lsD (lessL ls a l m)) h := by
  rw [callK_eq t_with_less]
  have ha : a < ls.length := (List.getElem?_eq_some_iff.1 hl).1
  refine (run_rt rfl ?_).trans gc_same
  have e1 : ∀ h, opSl (lsD ls) none (some (a : Int)) h = .ok (lsD (ls.take a)) h := fun h => by
    simp only [opSl, lsD, cut_lo, List.map_take]
  have e2 : ∀ h, opSl (lsD ls) (some ((a : Int) + 1)) none h = .ok (lsD (ls.drop (a + 1))) h := fun h => by
    have := cut_hi (ls.map ldD) (a + 1)
    rw [Int.natCast_add] at this
    simp only [opSl, lsD, List.map_drop]
    rw [← this]; rfl
  have e3 : tupT [nmT 3, nmT 4, nmT 5] (ldD l) [some (lsD ls), some (.int a), some (.int m), none, none, none] h = some [some (lsD ls), some (.int a), some (.int m), some (.int l.k), some (.int l.n), some (shD l.sh)] := by simp [ldD]
  simp [u_var, R_with_less, F_with_less, ix_ls hl, e3, e1, e2]
  simp only [lsD, u_addT, List.length_map, List.length_append, List.length_take, List.length_drop, List.length_cons, List.length_nil]
  rw [if_pos (by omega)]
  simp only [bind_ok, u_addT, List.length_map, List.length_append, List.length_take, List.length_drop, List.length_cons, List.length_nil]
  rw [if_pos (by omega)]
  simp [lessL, List.set_eq_take_append_cons_drop, ha, ldD]
def borne (p : Rat) (os ss : List Rat) : List Rat := (ss.zip os).map fun x => x.1 * (1 - p) + x.2 * p
theorem borne_of_ok (k : Nat) (M W : Nat) (ss os : List Rat) (p : Rat) (h : Hv) (hM : 0 < M) (hW : 0 < W) (hMW : M * W < 2 ^ 4400) (hs : ∀ q ∈ ss, Sc M q) (ho : ∀ q ∈ os, Sc M q) (hp : Sh W p) (hn : ss.length ≤ 1000) :
    callK T (k + 4) "borne_of" [shD ss, am p, shD os] h = .ok (shD (borne p os ss)) h := by
  rw [callK_eq t_borne_of]
  have hM1 : M < 2 ^ 4400 := Nat.lt_of_le_of_lt (Nat.le_mul_of_pos_right M hW) hMW
  have hW1 : W < 2 ^ 4400 := Nat.lt_of_le_of_lt (Nat.le_mul_of_pos_left W hM) hMW
  have one : am 1 = .tup [.int 1, .int 1] := rfl
  have f1 : Fit 1 := ⟨Nat.lt_of_lt_of_le (show 1 < 2 ^ 1 by decide) (Nat.pow_le_pow_right (by decide) (by decide)), Nat.lt_of_lt_of_le (show 1 < 2 ^ 1 by decide) (Nat.pow_le_pow_right (by decide) (by decide)), Nat.lt_of_lt_of_le (show 1 < 2 ^ 1 by decide) (Nat.pow_le_pow_right (by decide) (by decide))⟩
  have fp := hp.fit hW hW1
  have fk := (hp.compl hW).fit hW hW1
  have e1 := less_ok k 1 p h f1 fp
  rw [one] at e1
  have e2 := lc_all (C := callK T (k + 3)) (env := [some (shD ss), some (am p), some (shD os), some (am (1 - p)), none, none]) (it := itZ (varF 0) (varF 2)) (tg := tupT [nmT 4, nmT 5]) (own := [4, 5]) (elt := callF "plus" [callF "times" [varF 4, varF 3], callF "times" [varF 5, varF 1]])
    (gs := []) (h := h) (h1 := h) (ss.zip os) (fun x => .tup [am x.1, am x.2]) (fun x => am (x.1 * (1 - p) + x.2 * p)) (fun x => [some (shD ss), some (am p), some (shD os), some (am (1 - p)), some (am x.1), some (am x.2)])
    (itZ_tt (by simp [u_var, shD]) (by simp [u_var, shD]))
    (fun _ => rfl)
    (by intro x hx acc; simp [wipeD])
    (by
      intro x hx acc
      have m1 := hs _ (List.of_mem_zip hx).1
      have m2 := ho _ (List.of_mem_zip hx).2
      have a1 := times_ok k x.1 (1 - p) (h ++ [.lst acc]) (m1.fit hM hM1) fk
      have a2 := times_ok k x.2 p (h ++ [.lst acc]) (m2.fit hM hM1) fp
      have a3 := plus_ok k (x.1 * (1 - p)) (x.2 * p) (h ++ [.lst acc]) ((m1.mul (hp.compl hW)).fit (Nat.mul_pos hM hW) hMW) ((m2.mul hp).fit (Nat.mul_pos hM hW) hMW)
      simp [u_var, a1, a2, a3])
    (by simp; omega)
  refine (run_rt rfl ?_).trans (gc_app (g := [.lst ((ss.zip os).map fun x => am (x.1 * (1 - p) + x.2 * p))]) (shD_gr _))
  have et := u_tuplel (last_at h (.lst ((ss.zip os).map fun x => am (x.1 * (1 - p) + x.2 * p))))
  simp [u_var, R_borne_of, F_borne_of, e1, e2, et]
  simp [shD, borne]

def trD (P K B : Int) (hold : List Rat) (x y : Int) : D := .tup [.int P, .int K, .int B, shD hold, .int x, .int y]
def stD (ls : List Ld) (hs : List Rat) (nums : List Int) : D := .tup [lsD ls, shD hs, wsD nums]
/-- what lies on the beasts, and the beasts, by what each is worth -/
def worth (B : Int) (ls : List Ld) (ws : List Int) (w : Int) : Int := (ls.map fun l => l.n * ws.getD l.k 0).sum + B * w
theorem worth_of_ok (k : Nat) (P K B : Int) (hold : List Rat) (x y : Int) (ls : List Ld) (ws : List Int) (w : Int) (h : Hv) (hn : ls.length ≤ 1000)
    (hk : ∀ l ∈ ls, l.k < ws.length) (hw : ∀ v ∈ ws, v.natAbs < big64) (hw1 : w.natAbs < big64) :
    callK T (k + 1) "worth_of" [trD P K B hold x y, lsD ls, wsD (ws ++ [w])] h = .ok (.int (worth B ls ws w)) h := by
  rw [callK_eq t_worth_of]
  have e2 := lc_all (C := callK T k) (env := [some (trD P K B hold x y), some (lsD ls), some (wsD (ws ++ [w])), none]) (it := itE (varF 1)) (tg := nmT 3) (own := [3]) (elt := binF opMul (binF opIx (varF 3) (conF (.int 1))) (binF opIx (varF 2) (binF opIx (varF 3) (conF (.int 0)))))
    (gs := []) (h := h) (h1 := h) ls ldD (fun l => .int (l.n * ws.getD l.k 0)) (fun l => [some (trD P K B hold x y), some (lsD ls), some (wsD (ws ++ [w])), some (ldD l)])
    (itE_t (by simp [u_var, lsD]))
    (fun _ => rfl)
    (by intro x hx acc; simp [wipeD])
    (by
      intro l hl acc
      have h1 := hk l hl
      have e3 : (ws ++ [w])[l.k]? = some (ws.getD l.k 0) := by
        rw [List.getElem?_append_left h1, List.getD_eq_getElem?_getD, List.getElem?_eq_getElem h1]; rfl
      have e4 : (ws.getD l.k 0).natAbs < big64 := by
        rw [List.getD_eq_getElem?_getD, List.getElem?_eq_getElem h1]
        exact hw _ (List.getElem_mem h1)
      simp only [u_bin, u_var, List.getElem?_cons_succ, List.getElem?_cons_zero, bind_ok, u_con, ix_l1, ix_l0, ix_ws e3, mul_t e4])
    (by omega)
  refine (run_rt rfl ?_).trans (gc_app (g := [.lst (ls.map fun l => .int (l.n * ws.getD l.k 0))]) rfl)
  have es : bSum [.ref h.length] (h ++ [.lst (ls.map fun l => .int (l.n * ws.getD l.k 0))]) = .ok (.int (ls.map fun l => l.n * ws.getD l.k 0).sum) (h ++ [.lst (ls.map fun l => .int (l.n * ws.getD l.k 0))]) := by
    have := u_sum (p := h.length) (ns := ls.map fun l => l.n * ws.getD l.k 0) (h := h ++ [.lst ((ls.map fun l => l.n * ws.getD l.k 0).map .int)]) (last_at _ _)
    rw [List.map_map] at this
    exact this
  have s0 : ∀ h, opIx (trD P K B hold x y) (.int 2) h = .ok (.int B) h := fun h => by simp [trD]
  simp [-List.getD_eq_getElem?_getD, u_var, R_worth_of, F_worth_of, e2, es, ix_wl, mul_t hw1, worth, s0]
def thD (a : Nat) (m : Int) (ws : List Int) : D := .tup [.str "throw", .int a, .int m, wsD ws]
def spD (a : Nat) (m : Int) : D := .tup [.str "spoil", .int a, .int m]
theorem cost_in_ok (k : Nat) (P K B : Int) (hold : List Rat) (x y : Int) (ls : List Ld) (hs : List Rat) (nums : List Int) (a : Nat) (m : Int) (ws : List Int) (w : Int) (l : Ld) (W : Nat) (h : Hv) (hn : ls.length ≤ 1000)
    (hk : ∀ l ∈ ls, l.k < ws.length) (hw : ∀ v ∈ ws, v.natAbs < big64) (hw1 : w.natAbs < big64) (hl : ls[a]? = some l) (hW : worth B ls ws w = W) (hW0 : 0 < W) (hW1 : W < bigD) :
    callK T (k + 3) "cost_in" [trD P K B hold x y, stD ls hs nums, thD a m (ws ++ [w])] h = .ok (am (mkRat (m * ws.getD l.k 0) W)) h := by
  rw [callK_eq t_cost_in]
  have h1 := hk l (List.mem_of_getElem? hl)
  have e3 : (ws ++ [w])[l.k]? = some (ws.getD l.k 0) := by
    rw [List.getElem?_append_left h1, List.getD_eq_getElem?_getD, List.getElem?_eq_getElem h1]; rfl
  have e4 : (ws.getD l.k 0).natAbs < big64 := by
    rw [List.getD_eq_getElem?_getD, List.getElem?_eq_getElem h1]
    exact hw _ (List.getElem_mem h1)
  have e5 := worth_of_ok (k + 1) P K B hold x y ls ws w h hn hk hw hw1
  rw [hW] at e5
  have e6 := made_ok k (m * ws.getD l.k 0) W h hW0 hW1
  refine (run_rt rfl ?_).trans gc_same
  have s1 : opIx (stD ls hs nums) (.int 0) h = .ok (lsD ls) h := by simp [stD]
  have s2 : opIx (thD a m (ws ++ [w])) (.int 1) h = .ok (.int a) h := by simp [thD]
  have s3 : opIx (thD a m (ws ++ [w])) (.int 2) h = .ok (.int m) h := by simp [thD]
  have s4 : opIx (thD a m (ws ++ [w])) (.int 3) h = .ok (wsD (ws ++ [w])) h := by simp [thD]
  simp only [R_cost_in, F_cost_in, u_seq, u_asg, u_bin, u_call, u_list, u_list0, u_ret, u_var, List.map_cons, List.map_nil, List.replicate, List.cons_append, List.nil_append, List.getElem?_cons_succ, List.getElem?_cons_zero, bind_ok, u_con, s1, thenS_ok, u_nm, List.length_cons, List.length_nil, Nat.reduceAdd, Nat.reduceSub, Nat.reduceLT, if_true, om_some, nxt_nx, List.set_cons_succ, List.set_cons_zero, s2, s3, s4, ix_ls hl, ix_l0, ix_ws e3, mul_t e4, e5, e6, nxt_rt]
def thrL (p : Rat) (os : List Rat) (ls : List Ld) : List Ld := ls.map fun l => ⟨l.k, l.n, borne p os l.sh⟩
theorem thrown_ok (k : Nat) (P K B : Int) (hold : List Rat) (x y : Int) (ls : List Ld) (hs : List Rat) (nums : List Int) (a : Nat) (m : Int) (ws : List Int) (w : Int) (l : Ld) (M W : Nat) (h : Hv) (hn : ls.length ≤ 1000)
    (hk : ∀ l ∈ ls, l.k < ws.length) (hw : ∀ v ∈ ws, v.natAbs < big64) (hw1 : w.natAbs < big64) (hl : ls[a]? = some l) (hW : worth B ls ws w = W) (hW0 : 0 < W)
    (hM : 0 < M) (hMW : M * W < 2 ^ 4400) (hsh : ∀ l ∈ ls, (∀ q ∈ l.sh, Sc M q) ∧ l.sh.length ≤ 1000) (hhs : (∀ q ∈ hs, Sc M q) ∧ hs.length ≤ 1000) (hp : Sh W (mkRat (m * ws.getD l.k 0) W)) :
    callK T (k + 5) "thrown" [trD P K B hold x y, stD ls hs nums, thD a m (ws ++ [w])] h = .ok (stD (thrL (mkRat (m * ws.getD l.k 0) W) l.sh (lessL ls a l m)) (borne (mkRat (m * ws.getD l.k 0) W) l.sh hs) nums) h := by
  rw [callK_eq t_thrown]
  have hW1 : W < 2 ^ 4400 := Nat.lt_of_le_of_lt (Nat.le_mul_of_pos_left W hM) hMW
  have c1 := cost_in_ok (k + 1) P K B hold x y ls hs nums a m ws w l W h hn hk hw hw1 hl hW hW0 (bigM_le hW1 (by decide))
  generalize mkRat (m * ws.getD l.k 0) W = p at *
  have hlm := List.mem_of_getElem? hl
  have c2 := with_less_ok (k + 3) ls a l m h hl hn
  have hsh' : ∀ l' ∈ lessL ls a l m, (∀ q ∈ l'.sh, Sc M q) ∧ l'.sh.length ≤ 1000 := by
    intro l' hl'
    rcases List.mem_or_eq_of_mem_set hl' with h1 | rfl
    · exact hsh l' h1
    · exact hsh l hlm
  have e2 := lc_all (C := callK T (k + 4)) (env := [some (trD P K B hold x y), some (stD ls hs nums), some (thD a m (ws ++ [w])), some (lsD (lessL ls a l m)), some (lsD ls), some (shD hs), some (wsD nums), some (am p), some (shD l.sh), none, none, none]) (it := itE (varF 3)) (tg := tupT [nmT 9, nmT 10, nmT 11]) (own := [9, 10, 11]) (elt := tupF [varF 9, varF 10, callF "borne_of" [varF 11, varF 7, varF 8]])
    (gs := []) (h := h) (h1 := h) (lessL ls a l m) ldD (fun l' => ldD ⟨l'.k, l'.n, borne p l.sh l'.sh⟩) (fun l' => [some (trD P K B hold x y), some (stD ls hs nums), some (thD a m (ws ++ [w])), some (lsD (lessL ls a l m)), some (lsD ls), some (shD hs), some (wsD nums), some (am p), some (shD l.sh), some (.int l'.k), some (.int l'.n), some (shD l'.sh)])
    (itE_t (by simp [u_var, lsD]))
    (fun _ => rfl)
    (by intro x hx acc; simp [wipeD, ldD])
    (by
      intro l' hl' acc
      have b := borne_of_ok k M W l'.sh l.sh p (h ++ [.lst acc]) hM hW0 hMW (hsh' l' hl').1 (hsh l hlm).1 hp (hsh' l' hl').2
      simp [u_var, b, ldD])
    (by simp [lessL]; omega)
  have b2 := borne_of_ok k M W hs l.sh p (h ++ [.lst ((lessL ls a l m).map fun l' => ldD ⟨l'.k, l'.n, borne p l.sh l'.sh⟩)]) hM hW0 hMW hhs.1 (hsh l hlm).1 hp hhs.2
  have et := u_tuplel (last_at h (.lst ((lessL ls a l m).map fun l' => ldD ⟨l'.k, l'.n, borne p l.sh l'.sh⟩)))
  have hgr : (stD (thrL p l.sh (lessL ls a l m)) (borne p l.sh hs) nums).gr = true := by
    have : ∀ ns : List Int, (wsD ns).gr = true := by
      intro ns
      show D.grs _ = true
      induction ns with
      | nil => rfl
      | cons q qs ih => simpa [D.grs, D.gr] using ih
    simp [stD, D.gr, D.grs, lsD_gr, shD_gr, this]
  refine (run_rt rfl ?_).trans (gc_app (g := [.lst ((lessL ls a l m).map fun l' => ldD ⟨l'.k, l'.n, borne p l.sh l'.sh⟩)]) hgr)
  have s0 : tupT [nmT 4, nmT 5, nmT 6] (stD ls hs nums) [some (trD P K B hold x y), some (stD ls hs nums), some (thD a m (ws ++ [w])), none, none, none, none, none, none, none, none, none] h = some [some (trD P K B hold x y), some (stD ls hs nums), some (thD a m (ws ++ [w])), none, some (lsD ls), some (shD hs), some (wsD nums), none, none, none, none, none] := by simp [stD]
  have s2 : opIx (thD a m (ws ++ [w])) (.int 1) h = .ok (.int a) h := by simp [thD]
  have s3 : opIx (thD a m (ws ++ [w])) (.int 2) h = .ok (.int m) h := by simp [thD]
  simp [-List.getD_eq_getElem?_getD, u_var, R_thrown, F_thrown, s0, c1, s2, s3, ix_ls hl, c2, e2, et, b2, List.replicate]
  simp [stD, thrL, lsD]

theorem eq_strs {a b : Str} {v : Bool} (ha : PyData.strOk a = true) (hb : PyData.strOk b = true) (e : (a == b) = v) (neg : Bool) (h : Hv) : opEqD neg (.str a) (.str b) h = .ok (.bl (if neg then !v else v)) h := by
  have : PyData.eqv (.str a) (.str b) = v := by rw [← e]; simp only [PyData.eqv]
  cases neg <;> simp [opEqD, toP, ha, hb, this]
theorem tp (h : Hv) : opEqD false (.str "throw") (.str "pool") h = .ok (.bl false) h := eq_strs (v := false) (by decide +kernel) (by decide +kernel) (by decide +kernel) false h
theorem tb (h : Hv) : opEqD false (.str "throw") (.str "bring") h = .ok (.bl false) h := eq_strs (v := false) (by decide +kernel) (by decide +kernel) (by decide +kernel) false h
theorem tt (h : Hv) : opEqD false (.str "throw") (.str "trade") h = .ok (.bl false) h := eq_strs (v := false) (by decide +kernel) (by decide +kernel) (by decide +kernel) false h
theorem ts (h : Hv) : opEqD false (.str "throw") (.str "swap") h = .ok (.bl false) h := eq_strs (v := false) (by decide +kernel) (by decide +kernel) (by decide +kernel) false h
theorem tsp (h : Hv) : opEqD false (.str "throw") (.str "spoil") h = .ok (.bl false) h := eq_strs (v := false) (by decide +kernel) (by decide +kernel) (by decide +kernel) false h
theorem tth (h : Hv) : opEqD false (.str "throw") (.str "throw") h = .ok (.bl true) h := eq_strs (v := true) (by decide +kernel) (by decide +kernel) (by decide +kernel) false h
theorem sp (h : Hv) : opEqD false (.str "spoil") (.str "pool") h = .ok (.bl false) h := eq_strs (v := false) (by decide +kernel) (by decide +kernel) (by decide +kernel) false h
theorem sb (h : Hv) : opEqD false (.str "spoil") (.str "bring") h = .ok (.bl false) h := eq_strs (v := false) (by decide +kernel) (by decide +kernel) (by decide +kernel) false h
theorem st (h : Hv) : opEqD false (.str "spoil") (.str "trade") h = .ok (.bl false) h := eq_strs (v := false) (by decide +kernel) (by decide +kernel) (by decide +kernel) false h
theorem ss (h : Hv) : opEqD false (.str "spoil") (.str "swap") h = .ok (.bl false) h := eq_strs (v := false) (by decide +kernel) (by decide +kernel) (by decide +kernel) false h
theorem ssp (h : Hv) : opEqD false (.str "spoil") (.str "spoil") h = .ok (.bl true) h := eq_strs (v := true) (by decide +kernel) (by decide +kernel) (by decide +kernel) false h
theorem tin (h : Hv) : opIn false (.str "throw") (.tup [.str "spoil", .str "throw"]) h = .ok (.bl true) h := by rfl
theorem sin (h : Hv) : opIn false (.str "spoil") (.tup [.str "spoil", .str "throw"]) h = .ok (.bl true) h := by rfl
theorem can_throw (k : Nat) (ls : List Ld) (hs : List Rat) (nums : List Int) (a : Nat) (m : Int) (ws : List Int) (l : Ld) (h : Hv) (hl : ls[a]? = some l) (hm : m ≤ l.n) :
    callK T (k + 2) "can_do" [stD ls hs nums, thD a m ws] h = .ok (.bl true) h := by
  rw [callK_eq t_can_do]
  have c := lies_ok k ls a l m h hl
  rw [decide_eq_true hm] at c
  refine (run_rt rfl ?_).trans gc_same
  have s0 : tupT [nmT 3, nmT 4, nmT 5] (stD ls hs nums) [some (stD ls hs nums), some (thD a m ws), none, none, none, none] h = some [some (stD ls hs nums), some (thD a m ws), none, some (lsD ls), some (shD hs), some (wsD nums)] := by simp [stD]
  have s1 : opIx (thD a m ws) (.int 0) h = .ok (.str "throw") h := by simp [thD]
  have s2 : opIx (thD a m ws) (.int 1) h = .ok (.int a) h := by simp [thD]
  have s3 : opIx (thD a m ws) (.int 2) h = .ok (.int m) h := by simp [thD]
  simp [u_var, R_can_do, F_can_do, s0, s1, s2, s3, tp, tt, ts, tin, c, List.replicate]
theorem can_spoil (k : Nat) (ls : List Ld) (hs : List Rat) (nums : List Int) (a : Nat) (m : Int) (l : Ld) (h : Hv) (hl : ls[a]? = some l) (hm : m ≤ l.n) :
    callK T (k + 2) "can_do" [stD ls hs nums, spD a m] h = .ok (.bl true) h := by
  rw [callK_eq t_can_do]
  have c := lies_ok k ls a l m h hl
  rw [decide_eq_true hm] at c
  refine (run_rt rfl ?_).trans gc_same
  have s0 : tupT [nmT 3, nmT 4, nmT 5] (stD ls hs nums) [some (stD ls hs nums), some (spD a m), none, none, none, none] h = some [some (stD ls hs nums), some (spD a m), none, some (lsD ls), some (shD hs), some (wsD nums)] := by simp [stD]
  have s1 : opIx (spD a m) (.int 0) h = .ok (.str "spoil") h := by simp [spD]
  have s2 : opIx (spD a m) (.int 1) h = .ok (.int a) h := by simp [spD]
  have s3 : opIx (spD a m) (.int 2) h = .ok (.int m) h := by simp [spD]
  simp [u_var, R_can_do, F_can_do, s0, s1, s2, s3, sp, st, ss, sin, c, List.replicate]
theorem done_throw {k : Nat} {tr : D} {ls : List Ld} {hs : List Rat} {nums : List Int} {a : Nat} {m : Int} {ws : List Int} {r : D} {h : Hv}
    (e : callK T k "thrown" [tr, stD ls hs nums, thD a m ws] h = .ok r h) : callK T (k + 1) "done" [tr, stD ls hs nums, thD a m ws] h = .ok r h := by
  rw [callK_eq t_done]
  refine (run_rt rfl ?_).trans gc_same
  have s0 : tupT [nmT 5, nmT 6, nmT 7] (stD ls hs nums) [some tr, some (stD ls hs nums), some (thD a m ws), none, none, none, none, none, none, none, none, none, none, none, none, none] h = some [some tr, some (stD ls hs nums), some (thD a m ws), none, none, some (lsD ls), some (shD hs), some (wsD nums), none, none, none, none, none, none, none, none] := by simp [stD]
  have s1 : opIx (thD a m ws) (.int 0) h = .ok (.str "throw") h := by simp [thD]
  simp [u_var, R_done, F_done, s0, s1, tp, tb, tt, ts, tsp, tth, e, List.replicate]
theorem done_spoil (k : Nat) (tr : D) (ls : List Ld) (hs : List Rat) (nums : List Int) (a : Nat) (m : Int) (l : Ld) (h : Hv) (hl : ls[a]? = some l) (hn : ls.length ≤ 1000) :
    callK T (k + 2) "done" [tr, stD ls hs nums, spD a m] h = .ok (stD (lessL ls a l m) hs nums) h := by
  rw [callK_eq t_done]
  have c2 := with_less_ok k ls a l m h hl hn
  refine (run_rt rfl ?_).trans gc_same
  have s0 : tupT [nmT 5, nmT 6, nmT 7] (stD ls hs nums) [some tr, some (stD ls hs nums), some (spD a m), none, none, none, none, none, none, none, none, none, none, none, none, none] h = some [some tr, some (stD ls hs nums), some (spD a m), none, none, some (lsD ls), some (shD hs), some (wsD nums), none, none, none, none, none, none, none, none] := by simp [stD]
  have s1 : opIx (spD a m) (.int 0) h = .ok (.str "spoil") h := by simp [spD]
  have s2 : opIx (spD a m) (.int 1) h = .ok (.int a) h := by simp [spD]
  have s3 : opIx (spD a m) (.int 2) h = .ok (.int m) h := by simp [spD]
  simp [u_var, R_done, F_done, s0, s1, s2, s3, sp, sb, st, ss, ssp, c2, List.replicate]
  simp [stD]
/-! deeds behind another -/
def Step (tr s d s' : D) : Prop := ∀ k h, callK T (k + 8) "can_do" [s, d] h = .ok (.bl true) h ∧ callK T (k + 8) "done" [tr, s, d] h = .ok s' h
inductive Run (tr : D) : D → List D → List D → Prop
  | nil (s : D) : Run tr s [] []
  | cons {s d s' : D} {ds sts : List D} : Step tr s d s' → Run tr s' ds sts → Run tr s (d :: ds) (s' :: sts)
def fin (s : D) : List D → D
  | [] => s
  | s' :: sts => fin s' sts
theorem Run.len {tr s : D} {ds sts : List D} (r : Run tr s ds sts) : sts.length = ds.length := by
  induction r with
  | nil => rfl
  | cons _ _ ih => simp [ih]
theorem Run.take {tr : D} : ∀ (m : Nat) {s : D} {ds sts : List D}, Run tr s ds sts → Run tr s (ds.take m) (sts.take m)
  | 0, s, ds, sts, _ => by simpa using Run.nil s
  | m + 1, s, _, _, .nil _ => by simpa using Run.nil s
  | m + 1, s, _, _, .cons a r => by simpa using Run.cons a (r.take m)
section
variable {P K B x y : Int} {hold : List Rat} {ls : List Ld} {ds sts : List D}
def bookD (tr : D) (ls : List Ld) (ds : List D) : D := .tup [tr, lsD ls, .tup ds]
theorem begun_ok (k : Nat) (h : Hv) : callK T (k + 1) "begun" [bookD (trD P K B hold x y) ls ds] h = .ok (stD ls hold []) h := by
  rw [callK_eq t_begun]
  refine (run_rt rfl ?_).trans gc_same
  simp [u_var, R_begun, F_begun, bookD, trD, stD, wsD]
theorem after_ok (k : Nat) (r : Run (trD P K B hold x y) (stD ls hold []) ds sts) (m : Nat) (hm : m ≤ ds.length) (h : Hv) :
    callK T (k + 9) "after" [bookD (trD P K B hold x y) ls ds, .int m] h = .ok (fin (stD ls hold []) (sts.take m)) h := by
  rw [callK_eq t_after]
  refine (run_rt rfl ?_).trans gc_same
  have rt := r.take m
  have b : callK T (k + 8) "begun" [bookD (trD P K B hold x y) ls ds] h = .ok (stD ls hold []) h := begun_ok (k + 7) h
  generalize hbk : bookD (trD P K B hold x y) ls ds = bk at *
  have b0 : ∀ h, opIx bk (.int 0) h = .ok (trD P K B hold x y) h := fun h => by rw [← hbk]; simp [bookD]
  have b2 : ∀ h, opIx bk (.int 2) h = .ok (.tup ds) h := fun h => by rw [← hbk]; simp [bookD]
  have cut : opSl (.tup ds) none (some (m : Int)) h = .ok (.tup (ds.take m)) h := by simp only [opSl, cut_lo]
  obtain ⟨env', h', e, p⟩ := for_inv (C := callK T (k + 8)) (tg := nmT 3) (body := (seqS (asgS (nmT 2) (callF "done" [(binF opIx (varF 0) (conF (.int 0))), (varF 2), (varF 3)])) nxS)) (gs := [])
    (P := fun xs env h1 => h1 = h ∧ ∃ s ss z, Run (trD P K B hold x y) s xs ss ∧ fin s ss = fin (stD ls hold []) (sts.take m) ∧ env = [some bk, some (.int m), some s, z])
    (fun _ _ _ _ => rfl)
    (by
      rintro d xs env h1 ⟨rfl, s, ss, z, r, f, rfl⟩
      cases r with
      | cons a r =>
        rename_i s' ss'
        refine ⟨[some bk, some (.int m), some s, some d], by simp, [some bk, some (.int m), some s', some d], h1, ?_, rfl, s', _, _, r, f, rfl⟩
        have := (a k h1).2
        simp [u_var, b0, this])
    (ds.take m) [some bk, some (.int m), some (stD ls hold []), none] h ⟨rfl, _, _, _, rt, rfl, rfl⟩
  obtain ⟨rfl, s, ss, z, r2, f, rfl⟩ := p
  cases r2
  have hit : itE (slcF opSl (binF opIx (varF 0) (conF (.int 2))) none (some (varF 1))) (callK T (k + 8)) [some bk, some (.int m), some (stD ls hold []), none] h' = .ok (ds.take m, []) h' := itE_t (by simp [u_var, b2, cut])
  have f' : s = fin (stD ls hold []) (sts.take m) := f
  simp [-u_for, u_var, R_after, F_after, b, List.replicate]
  rw [u_for, hit]
  simp only [thenI_ok, e]
  simp [u_var, f']
theorem wrong_in_ok (k : Nat) (r : Run (trD P K B hold x y) (stD ls hold []) ds sts) (h : Hv) :
    callK T (k + 9) "wrong_in" [bookD (trD P K B hold x y) ls ds] h = .ok .non h := by
  rw [callK_eq t_wrong_in]
  refine (run_rt rfl ?_).trans gc_same
  have b : callK T (k + 8) "begun" [bookD (trD P K B hold x y) ls ds] h = .ok (stD ls hold []) h := begun_ok (k + 7) h
  generalize hbk : bookD (trD P K B hold x y) ls ds = bk at *
  have b0 : ∀ h, opIx bk (.int 0) h = .ok (trD P K B hold x y) h := fun h => by rw [← hbk]; simp [bookD]
  have b2 : ∀ h, opIx bk (.int 2) h = .ok (.tup ds) h := fun h => by rw [← hbk]; simp [bookD]
  obtain ⟨env', h', e, p⟩ := for_inv (C := callK T (k + 8)) (tg := tupT [nmT 2, nmT 3]) (body := (seqS (ifS (un1F opNot (callF "can_do" [(varF 1), (varF 3)])) (seqS (retS (varF 2)) nxS) nxS) (seqS (asgS (nmT 1) (callF "done" [(binF opIx (varF 0) (conF (.int 0))), (varF 1), (varF 3)])) nxS))) (gs := [])
    (P := fun xs env h1 => h1 = h ∧ ∃ s ss i ds z w, xs = enumD i ds ∧ Run (trD P K B hold x y) s ds ss ∧ env = [some bk, some s, z, w])
    (fun _ _ _ _ => rfl)
    (by
      rintro d xs env h1 ⟨rfl, s, ss, i, ds, z, w, hx, r, rfl⟩
      cases r with
      | nil => cases hx
      | cons a r =>
        rename_i d' s' ds' ss'
        cases hx
        refine ⟨[some bk, some s, some (.int i), some d'], by simp, [some bk, some s', some (.int i), some d'], h1, ?_, rfl, s', _, _, _, _, _, rfl, r, rfl⟩
        have := a k h1
        simp [u_var, b0, this.1, this.2])
    (enumD 0 ds) [some bk, some (stD ls hold []), none, none] h ⟨rfl, _, _, _, _, _, _, rfl, r, rfl⟩
  have hit : itN (binF opIx (varF 0) (conF (.int 2))) (callK T (k + 8)) [some bk, some (stD ls hold []), none, none] h = .ok (enumD 0 ds, []) h := by
    simp [itN, u_var, b2, seqOf]
  obtain ⟨rfl, s, ss, i, ds', z, w, hx, r2, rfl⟩ := p
  simp [-u_for, u_var, R_wrong_in, F_wrong_in, b, List.replicate]
  rw [u_for, hit]
  simp only [thenI_ok, e]
  simp
@[simp] theorem is_non (neg : Bool) (h : Hv) : opIs neg .non .non h = .ok (.bl (!neg)) h := by cases neg <;> rfl
theorem need_done_ok (k : Nat) (r : Run (trD P K B hold x y) (stD ls hold []) ds sts) (h : Hv) :
    callK T (k + 10) "need_done" [bookD (trD P K B hold x y) ls ds] h = .ok .non h := by
  rw [callK_eq t_need_done]
  refine (run_nx (e := [some (bookD (trD P K B hold x y) ls ds), some .non]) rfl ?_).trans gc_same
  simp [u_var, R_need_done, F_need_done, wrong_in_ok k r, List.replicate]
theorem is_within_ok (k : Nat) (i lo hi : Int) (h : Hv) (h1 : lo ≤ i) (h2 : i ≤ hi) : callK T (k + 2) "is_within" [.int i, .int lo, .int hi] h = .ok (.bl true) h := by
  have e : callK T (k + 1) "is_whole" [.int i] h = .ok (.bl true) h := by
    rw [callK_eq t_is_whole]
    refine (run_rt rfl ?_).trans gc_same
    simp [u_var, R_is_whole, F_is_whole, isiF, tyD, isiD]
  rw [callK_eq t_is_within]
  refine (run_rt rfl ?_).trans gc_same
  simp [u_var, R_is_within, F_is_within, e, h1, h2]
theorem need_many_ok (k : Nat) (m : Nat) (hm : m ≤ ds.length) (h : Hv) : callK T (k + 10) "need_many" [bookD (trD P K B hold x y) ls ds, .int m] h = .ok .non h := by
  rw [callK_eq t_need_many]
  refine (run_nx (e := [some (bookD (trD P K B hold x y) ls ds), some (.int m)]) rfl ?_).trans gc_same
  have e : callK T (k + 9) "is_within" [.int m, .int 0, .int ds.length] h = .ok (.bl true) h := is_within_ok (k + 7) m 0 ds.length h (by omega) (by omega)
  have b2 : ∀ h, opIx (bookD (trD P K B hold x y) ls ds) (.int 2) h = .ok (.tup ds) h := fun h => by simp [bookD]
  simp [u_var, R_need_many, F_need_many, b2, e, List.replicate]
end

theorem one_num (w : Nat) (hw : 0 < w) : (mkRat 1 w).num = 1 ∧ (mkRat 1 w).den = w := by
  rw [Rat.num_mkRat, Rat.den_mkRat, if_neg (by omega), if_neg (by omega)]
  simp
theorem made_over (q : Rat) (w : Nat) (hw : 0 < w) : mkRat q.num (q.den * w) = q * mkRat 1 w := by
  obtain ⟨e1, e2⟩ := one_num w hw
  rw [Rat.mul_def', e1, e2, Int.mul_one]
/-- whose a pool is, partner by partner -/
def plS (n m : Int) (ss ts : List Rat) : List Rat := (ss.zip ts).map fun x => ((n : Rat) * x.1 + (m : Rat) * x.2) * mkRat 1 (n + m).toNat
theorem so_fit {M : Nat} {n : Int} {q : Rat} (h : Sc M q) (hM : 0 < M) (hM1 : M < 2 ^ 4400) (hn : 0 ≤ n) (hn1 : n < 2 ^ 400) : Fit ((n : Rat) * q) ∧ ((n : Rat) * q).den ∣ M ∧ 0 ≤ (n : Rat) * q ∧ (n : Rat) * q ≤ ((n.toNat * 2 ^ 64 : Nat) : Rat) := by
  obtain ⟨k, rfl⟩ := Int.eq_ofNat_of_zero_le hn
  have d1 : (((k : Int) : Rat) * q).den ∣ M := by
    have := den_mul_dvd ((k : Int) : Rat) q
    rw [Rat.den_intCast, Nat.one_mul] at this
    exact Nat.dvd_trans this h.1
  have k0 : (0 : Rat) ≤ ((k : Int) : Rat) := by exact_mod_cast hn
  have p0 := Rat.mul_nonneg k0 h.2.1
  have p1 : ((k : Int) : Rat) * q ≤ (((k : Int).toNat * 2 ^ 64 : Nat) : Rat) := by
    have := Rat.mul_le_mul_of_nonneg_left h.2.2 k0
    rw [Rat.natCast_mul]
    exact this
  refine ⟨fit_le d1 p0 p1 hM hM1 ?_, d1, p0, p1⟩
  have : (k : Int).toNat * 2 ^ 64 < 2 ^ 400 * 2 ^ 64 := Nat.mul_lt_mul_of_pos_right (by omega) (by decide)
  exact Nat.lt_trans this (by rw [← Nat.pow_add]; exact Nat.pow_lt_pow_right (by decide) (by decide))
theorem pooled_ok (k : Nat) (ls : List Ld) (a b : Nat) (la lb : Ld) (M : Nat) (h : Hv) (hla : ls[a]? = some la) (hlb : ls[b]? = some lb) (hab : a ≠ b) (hn : ls.length ≤ 900) (hM : 0 < M) (hM1 : M < 2 ^ 4000)
    (ha : ∀ q ∈ la.sh, Sc M q) (hb : ∀ q ∈ lb.sh, Sc M q) (hl : la.sh.length ≤ 900) (na : 1 ≤ la.n ∧ la.n < 2 ^ 390) (nb : 1 ≤ lb.n ∧ lb.n < 2 ^ 390) :
    callK T (k + 4) "pooled" [lsD ls, .int a, .int b] h = .ok (lsD (lessL (lessL ls a la la.n) b lb lb.n ++ [⟨la.k, la.n + lb.n, plS la.n lb.n la.sh lb.sh⟩])) h := by
  have hM2 : M < 2 ^ 4400 := Nat.lt_of_lt_of_le hM1 (Nat.pow_le_pow_right (by decide) (by decide))
  rw [callK_eq t_pooled]
  obtain ⟨w, ew⟩ := Int.eq_ofNat_of_zero_le (a := la.n + lb.n) (by omega)
  have w0 : 0 < w := by omega
  have w1 : w < 2 ^ 400 := by omega
  have hlb' : (lessL ls a la la.n)[b]? = some lb := by
    rw [lessL, List.getElem?_set_ne hab]; exact hlb
  have x1 : callK T (k + 3) "with_less" [lsD ls, .int a, .int la.n] = fun h => .ok (lsD (lessL ls a la la.n)) h := by
    funext h; exact with_less_ok (k + 2) ls a la la.n h hla (by omega)
  have x2 : callK T (k + 3) "with_less" [lsD (lessL ls a la la.n), .int b, .int lb.n] = fun h => .ok (lsD (lessL (lessL ls a la la.n) b lb lb.n)) h := by
    funext h; exact with_less_ok (k + 2) _ b lb lb.n h hlb' (by simp [lessL]; omega)
  have e1 : ∀ (z8 z9 z10 : Option D), ∃ y8 y9 y10 : Option D, forS (itZ (binF opIx (varF 6) (conF (.int 2))) (binF opIx (varF 7) (conF (.int 2)))) (tupT [(nmT 8), (nmT 9)]) (seqS (asgS (nmT 10) (callF "plus" [(callF "so_many" [(binF opIx (varF 6) (conF (.int 1))), (varF 8)]), (callF "so_many" [(binF opIx (varF 7) (conF (.int 1))), (varF 9)])])) (seqS (expS (methF mAppend (varF 4) [(callF "made" [(binF opIx (varF 10) (conF (.int 0))), (binF opMul (binF opIx (varF 10) (conF (.int 1))) (varF 3))])])) nxS))
      (callK T (k + 3)) [some (lsD ls), some (.int a), some (.int b), some (.int w), some (.ref h.length), none, some (ldD la), some (ldD lb), z8, z9, z10] (h ++ [.lst []]) =
      .nx [some (lsD ls), some (.int a), some (.int b), some (.int w), some (.ref h.length), none, some (ldD la), some (ldD lb), y8, y9, y10] (h ++ [.lst ((plS la.n lb.n la.sh lb.sh).map am)]) := by
    intro z8 z9 z10
    have hit : itZ (binF opIx (varF 6) (conF (.int 2))) (binF opIx (varF 7) (conF (.int 2))) (callK T (k + 3)) [some (lsD ls), some (.int a), some (.int b), some (.int w), some (.ref h.length), none, some (ldD la), some (ldD lb), z8, z9, z10] (h ++ [.lst []]) = .ok ((la.sh.zip lb.sh).map fun p => .tup [am p.1, am p.2], []) (h ++ [.lst []]) :=
      itZ_tt (by simp [u_var, shD]) (by simp [u_var, shD])
    obtain ⟨env', h', e, p⟩ := for_inv (C := callK T (k + 3)) (tg := tupT [(nmT 8), (nmT 9)]) (body := (seqS (asgS (nmT 10) (callF "plus" [(callF "so_many" [(binF opIx (varF 6) (conF (.int 1))), (varF 8)]), (callF "so_many" [(binF opIx (varF 7) (conF (.int 1))), (varF 9)])])) (seqS (expS (methF mAppend (varF 4) [(callF "made" [(binF opIx (varF 10) (conF (.int 0))), (binF opMul (binF opIx (varF 10) (conF (.int 1))) (varF 3))])])) nxS))) (gs := [])
      (P := fun xs env h1 => ∃ (zs : List (Rat × Rat)) (done : List Rat) (y8 y9 y10 : Option D), xs = zs.map (fun p => .tup [am p.1, am p.2]) ∧ (∀ z ∈ zs, z ∈ la.sh.zip lb.sh) ∧ done.length + zs.length ≤ 900 ∧
        done ++ zs.map (fun x => ((la.n : Rat) * x.1 + (lb.n : Rat) * x.2) * mkRat 1 w) = plS la.n lb.n la.sh lb.sh ∧
        env = [some (lsD ls), some (.int a), some (.int b), some (.int w), some (.ref h.length), none, some (ldD la), some (ldD lb), y8, y9, y10] ∧ h1 = h ++ [.lst (done.map am)])
      (fun _ _ _ _ => rfl)
      (by
        rintro x xs env h1 ⟨zs, dn, y8, y9, y10, e1, hz, hlen, e2, rfl, rfl⟩
        cases zs with
        | nil => cases e1
        | cons z zs =>
          cases e1
          have hm := hz z (by simp)
          have s1 := ha _ (List.of_mem_zip hm).1
          have s2 := hb _ (List.of_mem_zip hm).2
          obtain ⟨f1, d1, p1, q1⟩ := so_fit (n := la.n) s1 hM hM2 (by omega) (by omega)
          obtain ⟨f2, d2, p2, q2⟩ := so_fit (n := lb.n) s2 hM hM2 (by omega) (by omega)
          have n1 : la.n.natAbs < bigM := Nat.lt_of_lt_of_le (show la.n.natAbs < 2 ^ 390 by omega) (Nat.pow_le_pow_right (by decide) (by decide))
          have n2 : lb.n.natAbs < bigM := Nat.lt_of_lt_of_le (show lb.n.natAbs < 2 ^ 390 by omega) (Nat.pow_le_pow_right (by decide) (by decide))
          have c1 := so_many_ok k la.n z.1 (h ++ [.lst (dn.map am)]) n1 (s1.fit hM hM2)
          have c2 := so_many_ok k lb.n z.2 (h ++ [.lst (dn.map am)]) n2 (s2.fit hM hM2)
          have c3 := plus_ok k _ _ (h ++ [.lst (dn.map am)]) f1 f2
          have db := den_add_dvd hM d1 d2
          generalize hq : (la.n : Rat) * z.1 + (lb.n : Rat) * z.2 = q at *
          have dq : q.den ≤ M := Nat.le_of_dvd hM db
          have dq1 : q.den * w < bigD := Nat.lt_of_lt_of_le (Nat.mul_lt_mul'' (Nat.lt_of_le_of_lt dq hM2) w1) (by rw [← Nat.pow_add]; exact Nat.pow_le_pow_right (by decide) (by decide))
          have c4 := made_ok (k + 1) q.num (q.den * w) (h ++ [.lst (dn.map am)]) (Nat.mul_pos q.den_pos w0) dq1
          rw [made_over q w w0, Int.natCast_mul] at c4
          have m1 : ∀ h, opMul (.int q.den) (.int w) h = .ok (.int (q.den * w)) h := fun h => mul_m (by
            have : q.den < bigM := Nat.lt_of_le_of_lt dq (Nat.lt_of_lt_of_le hM1 (Nat.pow_le_pow_right (by decide) (by decide)))
            simpa using this) (by
            have : w < bigM := Nat.lt_of_lt_of_le w1 (Nat.pow_le_pow_right (by decide) (by decide))
            simpa using this)
          refine ⟨[some (lsD ls), some (.int a), some (.int b), some (.int w), some (.ref h.length), none, some (ldD la), some (ldD lb), some (am z.1), some (am z.2), y10], by simp, [some (lsD ls), some (.int a), some (.int b), some (.int w), some (.ref h.length), none, some (ldD la), some (ldD lb), some (am z.1), some (am z.2), some (am q)], h ++ [.lst ((dn ++ [q * mkRat 1 w]).map am)], ?_, zs, dn ++ [q * mkRat 1 w], some (am z.1), some (am z.2), some (am q), rfl, fun z' hz' => hz z' (by simp [hz']), by simp at hlen ⊢; omega, ?_, rfl, rfl⟩
          · have hl2 : dn.length < szl := by simp at hlen; unfold szl; omega
            have il : isLst (.ref h.length) (h ++ [.lst (dn.map am)]) = true := by simp [isLst]
            have ap : mAppend (.ref h.length) [am (q * mkRat 1 w)] (h ++ [.lst (dn.map am)]) = .ok .non (h ++ [.lst ((dn ++ [q * mkRat 1 w]).map am)]) := by
              have l0 := last_at h (.lst (dn.map am))
              simp only [mAppend, l0, List.length_map]
              rw [if_pos hl2]
              simp [List.set_append]
            simp [u_var, c1, c2, c3, methF, il, m1, c4, ap]
          · rw [← e2, ← hq]; simp)
      ((la.sh.zip lb.sh).map fun p => .tup [am p.1, am p.2]) [some (lsD ls), some (.int a), some (.int b), some (.int w), some (.ref h.length), none, some (ldD la), some (ldD lb), z8, z9, z10] (h ++ [.lst []])
      ⟨la.sh.zip lb.sh, [], z8, z9, z10, rfl, fun z hz => hz, by simp; omega, by simp [plS, ew], rfl, by simp⟩
    obtain ⟨zs, dn, y8, y9, y10, e0, _, _, e2, rfl, rfl⟩ := p
    cases zs with
    | cons z zs => cases e0
    | nil =>
      refine ⟨y8, y9, y10, ?_⟩
      rw [u_for, hit]
      simp only [thenI_ok, e]
      rw [← e2]
      simp
  obtain ⟨y8, y9, y10, e2⟩ := e1 none none none
  refine (run_rt rfl ?_).trans (gc_app (g := [.lst ((plS la.n lb.n la.sh lb.sh).map am)]) (lsD_gr _))
  have et := u_tuplel (last_at h (.lst ((plS la.n lb.n la.sh lb.sh).map am)))
  have ll : (lessL (lessL ls a la la.n) b lb lb.n).length = ls.length := by simp [lessL]
  have ap : ∀ h, opAdd (lsD (lessL (lessL ls a la la.n) b lb lb.n)) (.tup [.tup [.int la.k, .int w, .tup ((plS la.n lb.n la.sh lb.sh).map am)]]) h = .ok (lsD (lessL (lessL ls a la la.n) b lb lb.n ++ [⟨la.k, la.n + lb.n, plS la.n lb.n la.sh lb.sh⟩])) h := fun h => by
    simp only [lsD, u_addT, List.length_map, ll, List.length_cons, List.length_nil]
    rw [if_pos (by omega), List.map_append]
    simp only [List.map_cons, List.map_nil, ldD, ew]
    rfl
  simp [-u_for, u_var, R_pooled, F_pooled, ix_ls hla, ix_ls hlb, ew, e2, x1, x2, et, ap, List.replicate]

/-- shares behind a sale -/
def soS (p q : Nat) (part : Rat) (ss : List Rat) : List Rat := (ss.set p (ss.getD p 0 - ss.getD p 0 * part)).set q (ss.getD q 0 + ss.getD p 0 * part)
theorem last_set (h : Hv) (x y : Ob) : (h ++ [x]).set h.length y = h ++ [y] := by simp [List.set_append]
theorem getD_mem {ss : List Rat} {p : Nat} (hp : p < ss.length) : ss.getD p 0 ∈ ss := by
  rw [List.getD_eq_getElem?_getD, List.getElem?_eq_getElem hp]
  exact List.getElem_mem hp
theorem sold_of_ok (k : Nat) (M N : Nat) (ss : List Rat) (p q : Nat) (part : Rat) (h : Hv) (hp : p < ss.length) (hq : q < ss.length) (hpq : p ≠ q) (hM : 0 < M) (hN : 0 < N) (hMN : M * N < 2 ^ 4400) (hs : ∀ x ∈ ss, Sc M x) (hpt : Sh N part) :
    callK T (k + 4) "sold_of" [shD ss, .int p, .int q, am part] h = .ok (shD (soS p q part ss)) h := by
  rw [callK_eq t_sold_of]
  have hM1 : M < 2 ^ 4400 := Nat.lt_of_le_of_lt (Nat.le_mul_of_pos_right M hN) hMN
  have hN1 : N < 2 ^ 4400 := Nat.lt_of_le_of_lt (Nat.le_mul_of_pos_left N hM) hMN
  have sp := hs _ (getD_mem hp)
  have sq := hs _ (getD_mem hq)
  have gp : ∀ h, opIx (shD ss) (.int p) h = .ok (am (ss.getD p 0)) h := fun h => by
    rw [shD, ix_tup, at_nat, List.getElem?_map, List.getElem?_eq_getElem hp, List.getD_eq_getElem?_getD, List.getElem?_eq_getElem hp]; rfl
  have sm := sp.mul hpt
  have gq : ss.getD q 0 = ss[q] := by rw [List.getD_eq_getElem?_getD, List.getElem?_eq_getElem hq]; rfl
  have c1 := times_ok k (ss.getD p 0) part h (sp.fit hM hM1) (hpt.fit hN hN1)
  have fm := sm.fit (Nat.mul_pos hM hN) hMN
  have c2 := less_ok k (ss.getD p 0) (ss.getD p 0 * part) (h ++ [.lst (ss.map am)]) (sp.fit hM hM1) fm
  have c3 := plus_ok k (ss.getD q 0) (ss.getD p 0 * part) (h ++ [.lst ((ss.set p (ss.getD p 0 - ss.getD p 0 * part)).map am)]) (sq.fit hM hM1) fm
  have x1 : opIx (.ref h.length) (.int p) (h ++ [.lst (ss.map am)]) = .ok (am (ss.getD p 0)) (h ++ [.lst (ss.map am)]) := by
    rw [ix_ref _ _ _ _ (last_at h _), at_nat, List.getElem?_map, List.getElem?_eq_getElem hp, List.getD_eq_getElem?_getD, List.getElem?_eq_getElem hp]; rfl
  have x2 : opIx (.ref h.length) (.int q) (h ++ [.lst ((ss.set p (ss.getD p 0 - ss.getD p 0 * part)).map am)]) = .ok (am (ss.getD q 0)) (h ++ [.lst ((ss.set p (ss.getD p 0 - ss.getD p 0 * part)).map am)]) := by
    rw [ix_ref _ _ _ _ (last_at h _), at_nat, List.getElem?_map, List.getElem?_set_ne hpq, List.getElem?_eq_getElem hq, gq]; rfl
  have s1 : setL (.ref h.length) (.int p) (am (ss.getD p 0 - ss.getD p 0 * part)) (h ++ [.lst (ss.map am)]) = some (h ++ [.lst ((ss.set p (ss.getD p 0 - ss.getD p 0 * part)).map am)]) := by
    rw [setL_ok (last_at h _) (by simpa using hp), last_set, ← List.map_set]
  have s2 : setL (.ref h.length) (.int q) (am (ss.getD q 0 + ss.getD p 0 * part)) (h ++ [.lst ((ss.set p (ss.getD p 0 - ss.getD p 0 * part)).map am)]) = some (h ++ [.lst ((soS p q part ss).map am)]) := by
    rw [setL_ok (last_at h _) (by simpa using hq), last_set, soS, ← List.map_set]
  have et := u_tuplel (last_at h (.lst ((soS p q part ss).map am)))
  have bl : ∀ h, bList [shD ss] h = .ok (.ref h.length) (h ++ [.lst (ss.map am)]) := fun h => rfl
  refine (run_rt rfl ?_).trans (gc_app (g := [.lst ((soS p q part ss).map am)]) (shD_gr _))
  simp [-List.getD_eq_getElem?_getD, -List.map_set, u_var, R_sold_of, F_sold_of, gp, c1, bl, x1, c2, s1, x2, c3, s2, et, List.replicate]
  rfl
/-! the other deeds -/
def brD (p k : Nat) (n : Int) : D := .tup [.str "bring", .int p, .int k, .int n]
def poD (a b : Nat) : D := .tup [.str "pool", .int a, .int b]
def swD (a : Nat) (g : Int) (k : Nat) (n : Int) : D := .tup [.str "swap", .int a, .int g, .int k, .int n]
def traD (no : Int) (a : Nat) (g : Int) (k : Nat) (n : Int) : D := .tup [.str "trade", .int no, .int a, .int g, .int k, .int n]
def slD (p q : Nat) (part : Rat) : D := .tup [.str "sell", .int p, .int q, am part]
theorem wq {a b : Str} {v : Bool} (ha : PyData.strOk a = true := by decide +kernel) (hb : PyData.strOk b = true := by decide +kernel) (e : (a == b) = v := by decide +kernel) (h : Hv) : opEqD false (.str a) (.str b) h = .ok (.bl v) h := eq_strs ha hb e false h
theorem bb (h : Hv) : opEqD false (.str "bring") (.str "bring") h = .ok (.bl true) h := wq (h := h)
theorem bp (h : Hv) : opEqD false (.str "bring") (.str "pool") h = .ok (.bl false) h := wq (h := h)
theorem bt (h : Hv) : opEqD false (.str "bring") (.str "trade") h = .ok (.bl false) h := wq (h := h)
theorem bs (h : Hv) : opEqD false (.str "bring") (.str "swap") h = .ok (.bl false) h := wq (h := h)
theorem bin (h : Hv) : opIn false (.str "bring") (.tup [.str "spoil", .str "throw"]) h = .ok (.bl false) h := by rfl
theorem pb (h : Hv) : opEqD false (.str "pool") (.str "bring") h = .ok (.bl false) h := wq (h := h)
theorem pp (h : Hv) : opEqD false (.str "pool") (.str "pool") h = .ok (.bl true) h := wq (h := h)
theorem wb (h : Hv) : opEqD false (.str "swap") (.str "bring") h = .ok (.bl false) h := wq (h := h)
theorem wp (h : Hv) : opEqD false (.str "swap") (.str "pool") h = .ok (.bl false) h := wq (h := h)
theorem wt (h : Hv) : opEqD false (.str "swap") (.str "trade") h = .ok (.bl false) h := wq (h := h)
theorem ww (h : Hv) : opEqD false (.str "swap") (.str "swap") h = .ok (.bl true) h := wq (h := h)
theorem rb (h : Hv) : opEqD false (.str "trade") (.str "bring") h = .ok (.bl false) h := wq (h := h)
theorem rp (h : Hv) : opEqD false (.str "trade") (.str "pool") h = .ok (.bl false) h := wq (h := h)
theorem rt (h : Hv) : opEqD false (.str "trade") (.str "trade") h = .ok (.bl true) h := wq (h := h)
theorem eb (h : Hv) : opEqD false (.str "sell") (.str "bring") h = .ok (.bl false) h := wq (h := h)
theorem epo (h : Hv) : opEqD false (.str "sell") (.str "pool") h = .ok (.bl false) h := wq (h := h)
theorem etr (h : Hv) : opEqD false (.str "sell") (.str "trade") h = .ok (.bl false) h := wq (h := h)
theorem esw (h : Hv) : opEqD false (.str "sell") (.str "swap") h = .ok (.bl false) h := wq (h := h)
theorem esp (h : Hv) : opEqD false (.str "sell") (.str "spoil") h = .ok (.bl false) h := wq (h := h)
theorem eth (h : Hv) : opEqD false (.str "sell") (.str "throw") h = .ok (.bl false) h := wq (h := h)
theorem ein (h : Hv) : opIn false (.str "sell") (.tup [.str "spoil", .str "throw"]) h = .ok (.bl false) h := by rfl
section
variable (k : Nat) (ls : List Ld) (hs : List Rat) (nums : List Int) (h : Hv)
theorem un6 (d : D) : tupT [nmT 3, nmT 4, nmT 5] (stD ls hs nums) [some (stD ls hs nums), some d, none, none, none, none] h = some [some (stD ls hs nums), some d, none, some (lsD ls), some (shD hs), some (wsD nums)] := by simp [stD]
theorem un16 (tr d : D) : tupT [nmT 5, nmT 6, nmT 7] (stD ls hs nums) [some tr, some (stD ls hs nums), some d, none, none, none, none, none, none, none, none, none, none, none, none, none] h = some [some tr, some (stD ls hs nums), some d, none, none, some (lsD ls), some (shD hs), some (wsD nums), none, none, none, none, none, none, none, none] := by simp [stD]
theorem can_bring (p kd : Nat) (n : Int) : callK T (k + 1) "can_do" [stD ls hs nums, brD p kd n] h = .ok (.bl true) h := by
  rw [callK_eq t_can_do]
  refine (run_rt rfl ?_).trans gc_same
  have s1 : opIx (brD p kd n) (.int 0) h = .ok (.str "bring") h := by simp [brD]
  simp [u_var, R_can_do, F_can_do, un6, s1, bp, bt, bs, bin, List.replicate]
theorem can_sell (p q : Nat) (part : Rat) : callK T (k + 1) "can_do" [stD ls hs nums, slD p q part] h = .ok (.bl true) h := by
  rw [callK_eq t_can_do]
  refine (run_rt rfl ?_).trans gc_same
  have s1 : opIx (slD p q part) (.int 0) h = .ok (.str "sell") h := by simp [slD]
  simp [u_var, R_can_do, F_can_do, un6, s1, epo, etr, esw, ein, List.replicate]
theorem can_pool (a b : Nat) (la lb : Ld) (hla : ls[a]? = some la) (hlb : ls[b]? = some lb) (na : 1 ≤ la.n) (nb : 1 ≤ lb.n) (hk : la.k = lb.k) : callK T (k + 2) "can_do" [stD ls hs nums, poD a b] h = .ok (.bl true) h := by
  rw [callK_eq t_can_do]
  refine (run_rt rfl ?_).trans gc_same
  have s1 : opIx (poD a b) (.int 0) h = .ok (.str "pool") h := by simp [poD]
  have s2 : opIx (poD a b) (.int 1) h = .ok (.int a) h := by simp [poD]
  have s3 : opIx (poD a b) (.int 2) h = .ok (.int b) h := by simp [poD]
  have c1 := lies_ok k ls a la 1 h hla
  have c2 := lies_ok k ls b lb 1 h hlb
  rw [decide_eq_true na] at c1
  rw [decide_eq_true nb] at c2
  simp [u_var, R_can_do, F_can_do, un6, s1, s2, s3, pp, c1, c2, ix_ls hla, ix_ls hlb, hk, List.replicate]
theorem can_swap (a : Nat) (g : Int) (kd : Nat) (n : Int) (la : Ld) (hla : ls[a]? = some la) (ng : g ≤ la.n) (hk : la.k ≠ kd) : callK T (k + 2) "can_do" [stD ls hs nums, swD a g kd n] h = .ok (.bl true) h := by
  rw [callK_eq t_can_do]
  refine (run_rt rfl ?_).trans gc_same
  have s1 : opIx (swD a g kd n) (.int 0) h = .ok (.str "swap") h := by simp [swD]
  have s2 : opIx (swD a g kd n) (.int 1) h = .ok (.int a) h := by simp [swD]
  have s3 : opIx (swD a g kd n) (.int 2) h = .ok (.int g) h := by simp [swD]
  have s4 : opIx (swD a g kd n) (.int 3) h = .ok (.int kd) h := by simp [swD]
  have c1 := lies_ok k ls a la g h hla
  rw [decide_eq_true ng] at c1
  have hk' : ¬ ((la.k : Int) = kd) := by omega
  simp [u_var, R_can_do, F_can_do, un6, s1, s2, s3, s4, wp, wt, ww, c1, ix_ls hla, hk, hk', List.replicate]
theorem eqD_int (a b : Int) : eqD (.int a) (.int b) = (a == b) := rfl
theorem not_in (no : Int) (hno : no ∉ nums) : opIn true (.int no) (wsD nums) h = .ok (.bl true) h := by
  have e1 : (nums.map D.int).all flatD = true := by
    rw [List.all_eq_true]; intro x hx
    obtain ⟨i, _, rfl⟩ := List.mem_map.1 hx
    rfl
  have e2 : (nums.map D.int).any (fun y => eqD y (.int no)) = false := by
    rw [List.any_eq_false]; intro x hx
    obtain ⟨i, hi, rfl⟩ := List.mem_map.1 hx
    rw [eqD_int]
    intro e
    exact hno (by rw [← eq_of_beq e]; exact hi)
  simp only [opIn, wsD, seqOf]
  rw [if_pos ⟨rfl, e1⟩, e2]
  rfl
theorem tail2 (no : Int) (a : Nat) (g : Int) (kd : Nat) (n : Int) : opSl (traD no a g kd n) (some 2) none h = .ok (.tup [.int a, .int g, .int kd, .int n]) h := by
  have := cut_hi [D.str "trade", .int no, .int a, .int g, .int kd, .int n] 2
  simp only [traD, opSl]
  rw [show (some (2 : Int)) = some ((2 : Nat) : Int) from rfl, this]
  rfl
theorem can_trade (no : Int) (a : Nat) (g : Int) (kd : Nat) (n : Int) (la : Ld) (hno : no ∉ nums) (hla : ls[a]? = some la) (ng : g ≤ la.n) (hk : la.k ≠ kd) : callK T (k + 3) "can_do" [stD ls hs nums, traD no a g kd n] h = .ok (.bl true) h := by
  rw [callK_eq t_can_do]
  refine (run_rt rfl ?_).trans gc_same
  have s1 : opIx (traD no a g kd n) (.int 0) h = .ok (.str "trade") h := by simp [traD]
  have s2 : opIx (traD no a g kd n) (.int 1) h = .ok (.int no) h := by simp [traD]
  have c1 := can_swap k ls hs nums h a g kd n la hla ng hk
  rw [swD] at c1
  simp [u_var, R_can_do, F_can_do, un6, s1, s2, rp, rt, not_in _ _ _ hno, tail2, c1, List.replicate]
variable (P K B x y : Int) (hold : List Rat)
theorem done_pool (tr : D) (a b : Nat) (r : D) (e : callK T k "pooled" [lsD ls, .int a, .int b] h = .ok r h) : callK T (k + 1) "done" [tr, stD ls hs nums, poD a b] h = .ok (.tup [r, shD hs, wsD nums]) h := by
  rw [callK_eq t_done]
  refine (run_rt rfl ?_).trans gc_same
  have s1 : opIx (poD a b) (.int 0) h = .ok (.str "pool") h := by simp [poD]
  have s2 : opIx (poD a b) (.int 1) h = .ok (.int a) h := by simp [poD]
  have s3 : opIx (poD a b) (.int 2) h = .ok (.int b) h := by simp [poD]
  simp [u_var, R_done, F_done, un16, s1, s2, s3, pb, pp, e, List.replicate]
theorem app_ls (l1 : List Ld) (l : Ld) (h1 : l1.length ≤ 1000) (h : Hv) : opAdd (lsD l1) (.tup [ldD l]) h = .ok (lsD (l1 ++ [l])) h := by
  simp only [lsD, u_addT, List.length_map, List.length_cons, List.length_nil]
  rw [if_pos (by omega), List.map_append]
  rfl
theorem done_swap (tr : D) (a : Nat) (g : Int) (kd : Nat) (n : Int) (la : Ld) (hla : ls[a]? = some la) (hn : ls.length ≤ 900) : callK T (k + 2) "done" [tr, stD ls hs nums, swD a g kd n] h = .ok (stD (lessL ls a la g ++ [⟨kd, n, la.sh⟩]) hs nums) h := by
  rw [callK_eq t_done]
  refine (run_rt rfl ?_).trans gc_same
  have s1 : opIx (swD a g kd n) (.int 0) h = .ok (.str "swap") h := by simp [swD]
  have s2 : opIx (swD a g kd n) (.int 1) h = .ok (.int a) h := by simp [swD]
  have s3 : opIx (swD a g kd n) (.int 2) h = .ok (.int g) h := by simp [swD]
  have s4 : opIx (swD a g kd n) (.int 3) h = .ok (.int kd) h := by simp [swD]
  have s5 : opIx (swD a g kd n) (.int 4) h = .ok (.int n) h := by simp [swD]
  have c := with_less_ok k ls a la g h hla (by omega)
  have ap := app_ls (lessL ls a la g) ⟨kd, n, la.sh⟩ (by simp [lessL]; omega) h
  rw [ldD] at ap
  simp [u_var, R_done, F_done, un16, s1, s2, s3, s4, s5, wb, wp, wt, ww, c, ix_ls hla, ap, List.replicate]
  rfl
theorem done_trade (tr : D) (no : Int) (a : Nat) (g : Int) (kd : Nat) (n : Int) (la : Ld) (hla : ls[a]? = some la) (hn : ls.length ≤ 900) (hn2 : nums.length ≤ 900) : callK T (k + 3) "done" [tr, stD ls hs nums, traD no a g kd n] h = .ok (stD (lessL ls a la g ++ [⟨kd, n, la.sh⟩]) hs (nums ++ [no])) h := by
  rw [callK_eq t_done]
  refine (run_rt rfl ?_).trans gc_same
  have s1 : opIx (traD no a g kd n) (.int 0) h = .ok (.str "trade") h := by simp [traD]
  have s2 : opIx (traD no a g kd n) (.int 1) h = .ok (.int no) h := by simp [traD]
  have c := done_swap k ls hs nums h tr a g kd n la hla hn
  rw [swD] at c
  have ap : opAdd (wsD nums) (.tup [.int no]) h = .ok (wsD (nums ++ [no])) h := by
    simp only [wsD, u_addT, List.length_map, List.length_cons, List.length_nil]
    rw [if_pos (by omega), List.map_append]
    rfl
  generalize hX : lessL ls a la g ++ [⟨kd, n, la.sh⟩] = X at *
  have un : ∀ z : Option D, tupT [nmT 5, nmT 6, nmT 7] (stD X hs nums) [some tr, some (stD ls hs nums), some (traD no a g kd n), some (.str "trade"), none, some (lsD ls), some (shD hs), some (wsD nums), none, none, none, none, none, none, none, none] h = some [some tr, some (stD ls hs nums), some (traD no a g kd n), some (.str "trade"), none, some (lsD X), some (shD hs), some (wsD nums), none, none, none, none, none, none, none, none] := by intro z; simp [stD]
  simp [u_var, R_done, F_done, un16, s1, s2, rb, rp, rt, tail2, c, un none, ap, List.replicate]
  rfl
end

/-- whose a load is that one of P brings -/
def brS (P p : Nat) : List Rat := (List.range P).map fun i => if i = p then 1 else 0
section
variable (k : Nat) (ls : List Ld) (hs : List Rat) (nums : List Int) (h : Hv)
theorem am_ind (i p : Nat) : D.tup [.int (if (i : Int) = p then 1 else 0), .int 1] = am (if i = p then 1 else 0) := by
  by_cases e : i = p
  · rw [if_pos e, if_pos (by omega)]; rfl
  · rw [if_neg e, if_neg (by omega)]; rfl
theorem done_bring (P : Nat) (K B x y : Int) (hold : List Rat) (p kd : Nat) (n : Int) (hn : ls.length ≤ 900) (hP : P ≤ 1000) :
    callK T (k + 1) "done" [trD P K B hold x y, stD ls hs nums, brD p kd n] h = .ok (stD (ls ++ [⟨kd, n, brS P p⟩]) hs nums) h := by
  rw [callK_eq t_done]
  have s1 : opIx (brD p kd n) (.int 0) h = .ok (.str "bring") h := by simp [brD]
  have s2 : ∀ h, opIx (brD p kd n) (.int 1) h = .ok (.int p) h := fun h => by simp [brD]
  have s3 : ∀ h, opIx (brD p kd n) (.int 2) h = .ok (.int kd) h := fun h => by simp [brD]
  have s4 : ∀ h, opIx (brD p kd n) (.int 3) h = .ok (.int n) h := fun h => by simp [brD]
  have t0 : ∀ h, opIx (trD P K B hold x y) (.int 0) h = .ok (.int P) h := fun h => by simp [trD]
  have e2 := lc_all (C := callK T k) (env := [some (trD P K B hold x y), some (stD ls hs nums), some (brD p kd n), some (.str "bring"), none, some (lsD ls), some (shD hs), some (wsD nums), none, none, none, none, none, none, none, none])
    (it := it1F (binF opIx (varF 0) (conF (.int 0)))) (tg := nmT 12) (own := [12]) (elt := tupF [(bltF bInt [(binF (opEqD false) (varF 12) (binF opIx (varF 2) (conF (.int 1))))]), (conF (.int 1))])
    (gs := []) (h := h) (h1 := h) (List.range P) (fun i => .int (i : Nat)) (fun i => am (if i = p then 1 else 0)) (fun i => [some (trD P K B hold x y), some (stD ls hs nums), some (brD p kd n), some (.str "bring"), none, some (lsD ls), some (shD hs), some (wsD nums), none, none, none, none, some (.int (i : Nat)), none, none, none])
    (it1_ok (n := P) (by simp [u_var, t0]) (by omega))
    (fun _ => rfl)
    (by intro i hi acc; simp [wipeD])
    (by
      intro i hi acc
      rw [← am_ind]
      simp [u_var, s2])
    (by simp; omega)
  have et := u_tuplel (last_at h (.lst ((List.range P).map fun i => am (if i = p then 1 else 0))))
  have ap := fun h => app_ls ls ⟨kd, n, brS P p⟩ (by omega) h
  have e5 : shD (brS P p) = .tup ((List.range P).map fun i => am (if i = p then 1 else 0)) := by simp [shD, brS]
  rw [ldD, e5] at ap
  have hgr : (stD (ls ++ [⟨kd, n, brS P p⟩]) hs nums).gr = true := by
    have : ∀ ns : List Int, (wsD ns).gr = true := by
      intro ns
      show D.grs _ = true
      induction ns with
      | nil => rfl
      | cons q qs ih => simpa [D.grs, D.gr] using ih
    simp [stD, D.gr, D.grs, lsD_gr, shD_gr, this]
  refine (run_rt rfl ?_).trans (gc_app (g := [.lst ((List.range P).map fun i => am (if i = p then 1 else 0))]) hgr)
  simp only [] at ap
  simp [u_var, R_done, F_done, un16, s1, s3, s4, bb, e2, et, ap, List.replicate]
  rfl
def solL (p q : Nat) (part : Rat) (ls : List Ld) : List Ld := ls.map fun l => ⟨l.k, l.n, soS p q part l.sh⟩
theorem done_sell (M N : Nat) (tr : D) (p q : Nat) (part : Rat) (hn : ls.length ≤ 900) (hpq : p ≠ q) (hM : 0 < M) (hN : 0 < N) (hMN : M * N < 2 ^ 4400)
    (hsh : ∀ l ∈ ls, (∀ z ∈ l.sh, Sc M z) ∧ p < l.sh.length ∧ q < l.sh.length) (hhs : (∀ z ∈ hs, Sc M z) ∧ p < hs.length ∧ q < hs.length) (hpt : Sh N part) :
    callK T (k + 5) "done" [tr, stD ls hs nums, slD p q part] h = .ok (stD (solL p q part ls) (soS p q part hs) nums) h := by
  rw [callK_eq t_done]
  have s1 : opIx (slD p q part) (.int 0) h = .ok (.str "sell") h := by simp [slD]
  have cut : opSl (slD p q part) (some 1) none h = .ok (.tup [.int p, .int q, am part]) h := by
    have := cut_hi [D.str "sell", .int p, .int q, am part] 1
    simp only [slD, opSl]
    rw [show (some (1 : Int)) = some ((1 : Nat) : Int) from rfl, this]
    rfl
  have e2 := lc_all (C := callK T (k + 4)) (env := [some tr, some (stD ls hs nums), some (slD p q part), some (.str "sell"), none, some (lsD ls), some (shD hs), some (wsD nums), none, some (.int p), some (.int q), some (am part), none, none, none, none])
    (it := itE (varF 5)) (tg := tupT [(nmT 13), (nmT 14), (nmT 15)]) (own := [13, 14, 15]) (elt := tupF [(varF 13), (varF 14), (callF "sold_of" [(varF 15), (varF 9), (varF 10), (varF 11)])])
    (gs := []) (h := h) (h1 := h) ls ldD (fun l => ldD ⟨l.k, l.n, soS p q part l.sh⟩) (fun l => [some tr, some (stD ls hs nums), some (slD p q part), some (.str "sell"), none, some (lsD ls), some (shD hs), some (wsD nums), none, some (.int p), some (.int q), some (am part), none, some (.int l.k), some (.int l.n), some (shD l.sh)])
    (itE_t (by simp [u_var, lsD]))
    (fun _ => rfl)
    (by intro l hl acc; simp [wipeD, ldD])
    (by
      intro l hl acc
      obtain ⟨a1, a2, a3⟩ := hsh l hl
      have c := sold_of_ok k M N l.sh p q part (h ++ [.lst acc]) a2 a3 hpq hM hN hMN a1 hpt
      simp [u_var, c, ldD])
    (by omega)
  have et := u_tuplel (last_at h (.lst (ls.map fun l => ldD ⟨l.k, l.n, soS p q part l.sh⟩)))
  have c2 := sold_of_ok k M N hs p q part (h ++ [.lst (ls.map fun l => ldD ⟨l.k, l.n, soS p q part l.sh⟩)]) hhs.2.1 hhs.2.2 hpq hM hN hMN hhs.1 hpt
  have hgr : (stD (solL p q part ls) (soS p q part hs) nums).gr = true := by
    have : ∀ ns : List Int, (wsD ns).gr = true := by
      intro ns
      show D.grs _ = true
      induction ns with
      | nil => rfl
      | cons q qs ih => simpa [D.grs, D.gr] using ih
    simp [stD, D.gr, D.grs, lsD_gr, shD_gr, this]
  refine (run_rt rfl ?_).trans (gc_app (g := [.lst (ls.map fun l => ldD ⟨l.k, l.n, soS p q part l.sh⟩)]) hgr)
  simp [u_var, R_done, F_done, un16, s1, eb, epo, etr, esw, esp, eth, cut, e2, et, c2, List.replicate]
  simp [stD, solL, lsD]
end
/-! deeds and states of their own kind -/
inductive Dd where
  | bring (p k : Nat) (n : Int)
  | pool (a b : Nat)
  | swap (a : Nat) (g : Int) (k : Nat) (n : Int)
  | trade (no : Int) (a : Nat) (g : Int) (k : Nat) (n : Int)
  | spoil (a : Nat) (n : Int)
  | throw (a : Nat) (n : Int) (ws : List Int) (w : Int)
  | sell (p q : Nat) (part : Rat)
structure Sta where
  ls : List Ld
  hs : List Rat
  nums : List Int
def Dd.d : Dd → D
  | .bring p k n => brD p k n
  | .pool a b => poD a b
  | .swap a g k n => swD a g k n
  | .trade no a g k n => traD no a g k n
  | .spoil a n => spD a n
  | .throw a n ws w => thD a n (ws ++ [w])
  | .sell p q part => slD p q part
def Sta.d (s : Sta) : D := stD s.ls s.hs s.nums
def Ld.no : Ld := ⟨0, 0, []⟩
def at_ (ls : List Ld) (a : Nat) : Ld := ls.getD a Ld.no
/-- what a throw costs -/
def cost (B : Int) (ls : List Ld) (a : Nat) (n : Int) (ws : List Int) (w : Int) : Rat := mkRat (n * ws.getD (at_ ls a).k 0) (worth B ls ws w).toNat
def after1 (P : Nat) (B : Int) (s : Sta) : Dd → Sta
  | .bring p k n => ⟨s.ls ++ [⟨k, n, brS P p⟩], s.hs, s.nums⟩
  | .pool a b => ⟨lessL (lessL s.ls a (at_ s.ls a) (at_ s.ls a).n) b (at_ s.ls b) (at_ s.ls b).n ++ [⟨(at_ s.ls a).k, (at_ s.ls a).n + (at_ s.ls b).n, plS (at_ s.ls a).n (at_ s.ls b).n (at_ s.ls a).sh (at_ s.ls b).sh⟩], s.hs, s.nums⟩
  | .swap a g k n => ⟨lessL s.ls a (at_ s.ls a) g ++ [⟨k, n, (at_ s.ls a).sh⟩], s.hs, s.nums⟩
  | .trade no a g k n => ⟨lessL s.ls a (at_ s.ls a) g ++ [⟨k, n, (at_ s.ls a).sh⟩], s.hs, s.nums ++ [no]⟩
  | .spoil a n => ⟨lessL s.ls a (at_ s.ls a) n, s.hs, s.nums⟩
  | .throw a n ws w => ⟨thrL (cost B s.ls a n ws w) (at_ s.ls a).sh (lessL s.ls a (at_ s.ls a) n), borne (cost B s.ls a n ws w) (at_ s.ls a).sh s.hs, s.nums⟩
  | .sell p q part => ⟨solL p q part s.ls, soS p q part s.hs, s.nums⟩

theorem mulb {a b A B : Int} (a0 : 0 ≤ a) (a1 : a ≤ A) (b0 : 0 ≤ b) (b1 : b ≤ B) : 0 ≤ a * b ∧ a * b ≤ A * B :=
  ⟨Int.mul_nonneg a0 b0, Int.mul_le_mul a1 b1 b0 (by omega)⟩
/-- a share over M, not beyond 2^t -/
def Sq2 (t M : Nat) (q : Rat) : Prop := q.den ∣ M ∧ 0 ≤ q ∧ q ≤ ((2 ^ t : Nat) : Rat)
theorem natle {a b : Nat} (h : a ≤ b) : (a : Rat) ≤ (b : Rat) := by exact_mod_cast h
theorem Sq2.sc {t M : Nat} {q : Rat} (h : Sq2 t M q) (ht : t ≤ 64) : Sc M q := ⟨h.1, h.2.1, by
  have := natle (Nat.pow_le_pow_right (show 0 < 2 by decide) ht)
  have := h.2.2
  grind⟩
theorem Sq2.mono {t u M N : Nat} {q : Rat} (h : Sq2 t M q) (hd : M ∣ N) (ht : t ≤ u) : Sq2 u N q := ⟨Nat.dvd_trans h.1 hd, h.2.1, by
  have := natle (Nat.pow_le_pow_right (show 0 < 2 by decide) ht)
  have := h.2.2
  grind⟩
theorem Sq2.mul {t M W : Nat} {a b : Rat} (ha : Sq2 t M a) (hb : Sh W b) : Sq2 t (M * W) (a * b) := by
  refine ⟨Nat.dvd_trans (den_mul_dvd a b) (Nat.mul_dvd_mul ha.1 hb.1), Rat.mul_nonneg ha.2.1 hb.2.1, ?_⟩
  have := Rat.mul_le_mul_of_nonneg_left hb.2.2 ha.2.1
  have h1 := ha.2.2
  grind
theorem Sq2.borne {t M W : Nat} {s o p : Rat} (h0 : 0 < M) (h1 : 0 < W) (hs : Sq2 t M s) (ho : Sq2 t M o) (hp : Sh W p) : Sq2 t (M * W) (s * (1 - p) + o * p) := by
  have a := hs.mul (hp.compl h1)
  have b := ho.mul hp
  refine ⟨den_add_dvd (Nat.mul_pos h0 h1) a.1 b.1, ?_, ?_⟩
  · have := a.2.1; have := b.2.1; grind
  · have h2 := Rat.mul_le_mul_of_nonneg_right hs.2.2 (hp.compl h1).2.1
    have h3 := Rat.mul_le_mul_of_nonneg_right ho.2.2 hp.2.1
    generalize ((2 ^ t : Nat) : Rat) = c at *
    grind
theorem Sq2.add {t M : Nat} {a b : Rat} (h0 : 0 < M) (ha : Sq2 t M a) (hb : Sq2 t M b) : Sq2 (t + 1) M (a + b) := by
  refine ⟨den_add_dvd h0 ha.1 hb.1, ?_, ?_⟩
  · have := ha.2.1; have := hb.2.1; grind
  · have e : ((2 ^ (t + 1) : Nat) : Rat) = ((2 ^ t : Nat) : Rat) + ((2 ^ t : Nat) : Rat) := by
      rw [Nat.pow_succ, Nat.mul_two, Rat.natCast_add]
    rw [e]
    have := ha.2.2; have := hb.2.2
    grind
theorem Sh.sq {M : Nat} {q : Rat} (h : Sh M q) (t : Nat) : Sq2 t M q := ⟨h.1, h.2.1, by
  have := natle (Nat.one_le_two_pow (n := t))
  have := h.2.2
  grind⟩
theorem Sq2.pool {t M : Nat} {n m : Int} {a b : Rat} (hM : 0 < M) (hn : 0 ≤ n) (hm : 0 ≤ m) (hnm : 0 < n + m) (ha : Sq2 t M a) (hb : Sq2 t M b) : Sq2 t (M * (n + m).toNat) (((n : Rat) * a + (m : Rat) * b) * mkRat 1 (n + m).toNat) := by
  obtain ⟨w, ew⟩ := Int.eq_ofNat_of_zero_le (a := n + m) (by omega)
  have w0 : 0 < w := by omega
  obtain ⟨i, rfl⟩ := Int.eq_ofNat_of_zero_le hn
  obtain ⟨j, rfl⟩ := Int.eq_ofNat_of_zero_le hm
  have ew' : ((i : Int) + (j : Int)).toNat = w := by omega
  rw [ew']
  obtain ⟨e1, e2⟩ := one_num w w0
  have di : (((i : Int) : Rat) * a).den ∣ M := by
    have := den_mul_dvd ((i : Int) : Rat) a
    rw [Rat.den_intCast, Nat.one_mul] at this
    exact Nat.dvd_trans this ha.1
  have dj : (((j : Int) : Rat) * b).den ∣ M := by
    have := den_mul_dvd ((j : Int) : Rat) b
    rw [Rat.den_intCast, Nat.one_mul] at this
    exact Nat.dvd_trans this hb.1
  have i0 : (0 : Rat) ≤ ((i : Int) : Rat) := by exact_mod_cast hn
  have j0 : (0 : Rat) ≤ ((j : Int) : Rat) := by exact_mod_cast hm
  have inv0 : 0 ≤ mkRat 1 w := by rw [← Rat.num_nonneg, e1]; decide
  have p0 : 0 ≤ ((i : Int) : Rat) * a + ((j : Int) : Rat) * b := by
    have := Rat.mul_nonneg i0 ha.2.1
    have := Rat.mul_nonneg j0 hb.2.1
    grind
  refine ⟨?_, Rat.mul_nonneg p0 inv0, ?_⟩
  · have := den_mul_dvd (((i : Int) : Rat) * a + ((j : Int) : Rat) * b) (mkRat 1 w)
    rw [e2] at this
    exact Nat.dvd_trans this (Nat.mul_dvd_mul (den_add_dvd hM di dj) (Nat.dvd_refl _))
  · have u1 := Rat.mul_le_mul_of_nonneg_left ha.2.2 i0
    have u2 := Rat.mul_le_mul_of_nonneg_left hb.2.2 j0
    have ww : ((w : Nat) : Rat) * mkRat 1 w = 1 := by
      rw [Rat.mkRat_eq_div]
      have : ((w : Nat) : Rat) ≠ 0 := by exact_mod_cast Nat.ne_of_gt w0
      grind
    have wsum : ((i : Int) : Rat) + ((j : Int) : Rat) = ((w : Nat) : Rat) := by
      have : (((i : Int) + (j : Int) : Int) : Rat) = ((w : Int) : Rat) := by rw [ew]
      rw [Rat.intCast_add] at this
      exact this
    generalize ((2 ^ t : Nat) : Rat) = c at *
    have u3 : ((i : Int) : Rat) * a + ((j : Int) : Rat) * b ≤ ((w : Nat) : Rat) * c := by
      rw [← wsum]; grind
    have u4 := Rat.mul_le_mul_of_nonneg_right u3 inv0
    have u5 : ((w : Nat) : Rat) * c * mkRat 1 w = c := by
      have : ((w : Nat) : Rat) * c * mkRat 1 w = c * (((w : Nat) : Rat) * mkRat 1 w) := by grind
      rw [this, ww, Rat.mul_one]
    rw [u5] at u4
    exact u4
/-! what holds of a state behind t deeds -/
def tot (ls : List Ld) : Int := (ls.map fun l => l.n).sum
structure Good (P K t M : Nat) (s : Sta) : Prop where
  len : s.ls.length ≤ 4 + t
  kd : ∀ l ∈ s.ls, l.k < K
  nn : ∀ l ∈ s.ls, 0 ≤ l.n
  tot : tot s.ls ≤ (4 + t) * 2 ^ 131
  sh : ∀ l ∈ s.ls, l.sh.length = P ∧ ∀ q ∈ l.sh, Sq2 t M q
  hs : s.hs.length = P ∧ ∀ q ∈ s.hs, Sq2 t M q
  nums : s.nums.length ≤ t
  M0 : 0 < M
  M1 : M < 2 ^ (60 + 160 * t)
def Can (P K : Nat) (s : Sta) : Dd → Prop
  | .bring p k n => p < P ∧ k < K ∧ 1 ≤ n ∧ n < 2 ^ 131
  | .pool a b => a ≠ b ∧ a < s.ls.length ∧ b < s.ls.length ∧ 1 ≤ (at_ s.ls a).n ∧ 1 ≤ (at_ s.ls b).n ∧ (at_ s.ls a).k = (at_ s.ls b).k
  | .swap a g k n => a < s.ls.length ∧ 1 ≤ g ∧ g ≤ (at_ s.ls a).n ∧ k < K ∧ (at_ s.ls a).k ≠ k ∧ 1 ≤ n ∧ n < 2 ^ 131
  | .trade no a g k n => no ∉ s.nums ∧ a < s.ls.length ∧ 1 ≤ g ∧ g ≤ (at_ s.ls a).n ∧ k < K ∧ (at_ s.ls a).k ≠ k ∧ 1 ≤ n ∧ n < 2 ^ 131
  | .spoil a n => a < s.ls.length ∧ 1 ≤ n ∧ n ≤ (at_ s.ls a).n
  | .throw a n ws w => a < s.ls.length ∧ 1 ≤ n ∧ n ≤ (at_ s.ls a).n ∧ ws.length = K ∧ (∀ v ∈ ws, 1 ≤ v ∧ v ≤ 99) ∧ 1 ≤ w ∧ w ≤ 99
  | .sell p q part => p ≠ q ∧ p < P ∧ q < P ∧ ∃ N, 0 < N ∧ N ≤ 12 ∧ Sh N part
theorem at_some {ls : List Ld} {a : Nat} (h : a < ls.length) : ls[a]? = some (at_ ls a) := by
  rw [at_, List.getD_eq_getElem?_getD, List.getElem?_eq_getElem h]; rfl
theorem at_mem {ls : List Ld} {a : Nat} (h : a < ls.length) : at_ ls a ∈ ls := List.mem_of_getElem? (at_some h)
theorem mem_less {ls : List Ld} {a : Nat} {l : Ld} {m : Int} {x : Ld} (h : x ∈ lessL ls a l m) : x ∈ ls ∨ x = ⟨l.k, l.n - m, l.sh⟩ := List.mem_or_eq_of_mem_set h
theorem sum_set : ∀ (ns : List Int) (i : Nat) (x : Int) (h : i < ns.length), (ns.set i x).sum = ns.sum - ns[i] + x
  | n :: ns, 0, x, h => by simp; omega
  | n :: ns, i + 1, x, h => by
    have := sum_set ns i x (by simpa using h)
    simp [this]; omega
theorem tot_less {ls : List Ld} {a : Nat} {m : Int} (h : a < ls.length) : tot (lessL ls a (at_ ls a) m) = tot ls - m := by
  have e : (lessL ls a (at_ ls a) m).map (fun l => l.n) = (ls.map fun l => l.n).set a ((at_ ls a).n - m) := by simp [lessL]
  rw [tot, e, sum_set _ _ _ (by simpa using h)]
  have e2 : (ls.map fun l => l.n)[a]'(by simpa using h) = (at_ ls a).n := by
    have := at_some h
    rw [List.getElem?_eq_getElem h] at this
    rw [List.getElem_map, Option.some.inj this]
  rw [e2]
  show tot ls - _ + _ = _
  omega
theorem tot_app (ls : List Ld) (l : Ld) : tot (ls ++ [l]) = tot ls + l.n := by simp [tot]
theorem tot_nn {ls : List Ld} (h : ∀ l ∈ ls, 0 ≤ l.n) : 0 ≤ tot ls ∧ ∀ l ∈ ls, l.n ≤ tot ls := by
  induction ls with
  | nil => simp [tot]
  | cons a ls ih =>
    obtain ⟨i1, i2⟩ := ih (fun l hl => h l (by simp [hl]))
    have := h a (by simp)
    have e : tot (a :: ls) = a.n + tot ls := by simp [tot]
    refine ⟨by omega, fun l hl => ?_⟩
    rcases List.mem_cons.1 hl with rfl | hl
    · omega
    · have := i2 l hl; omega
theorem worth_bd {B : Int} {K : Nat} {ws : List Int} {w : Int} (hB : 1 ≤ B ∧ B ≤ 20) (hws : ws.length = K) (hv : ∀ v ∈ ws, 1 ≤ v ∧ v ≤ 99) (hw : 1 ≤ w ∧ w ≤ 99) : ∀ (ls : List Ld), (∀ l ∈ ls, l.k < K) → (∀ l ∈ ls, 0 ≤ l.n) →
    0 ≤ (ls.map fun l => l.n * ws.getD l.k 0).sum ∧ (ls.map fun l => l.n * ws.getD l.k 0).sum ≤ 99 * tot ls ∧ ∀ l ∈ ls, l.n * ws.getD l.k 0 ≤ (ls.map fun l => l.n * ws.getD l.k 0).sum := by
  intro ls
  induction ls with
  | nil => simp [tot]
  | cons a ls ih =>
    intro hk hn
    obtain ⟨i1, i2, i3⟩ := ih (fun l hl => hk l (by simp [hl])) (fun l hl => hn l (by simp [hl]))
    have ka := hk a (by simp)
    have na := hn a (by simp)
    have hm : ws.getD a.k 0 ∈ ws := by
      rw [List.getD_eq_getElem?_getD, List.getElem?_eq_getElem (by omega)]
      exact List.getElem_mem _
    have hb := hv _ hm
    obtain ⟨p0, p1⟩ := mulb na (Int.le_refl _) (by omega) hb.2
    have e : tot (a :: ls) = a.n + tot ls := by simp [tot]
    generalize hg : ws.getD a.k 0 = g at *
    have e2 : ((a :: ls).map fun l => l.n * ws.getD l.k 0).sum = a.n * g + (ls.map fun l => l.n * ws.getD l.k 0).sum := by rw [← hg]; simp
    rw [e2, e]
    refine ⟨by omega, by omega, fun l hl => ?_⟩
    rcases List.mem_cons.1 hl with rfl | hl
    · rw [hg]; omega
    · have := i3 l hl; omega

theorem pow_mul_lt {a b m n k : Nat} (ha : a < 2 ^ m) (hb : b ≤ 2 ^ n) (hk : m + n ≤ k) : a * b < 2 ^ k := by
  have b0 : 0 < 2 ^ n := Nat.two_pow_pos n
  have h1 : a * b ≤ a * 2 ^ n := Nat.mul_le_mul_left a hb
  have h2 : a * 2 ^ n < 2 ^ m * 2 ^ n := Nat.mul_lt_mul_of_pos_right ha b0
  rw [← Nat.pow_add] at h2
  exact Nat.lt_of_lt_of_le (Nat.lt_of_le_of_lt h1 h2) (Nat.pow_le_pow_right (by decide) hk)
section
variable {P K t M : Nat} {s : Sta} {B : Int}
/-- facts of a throw -/
theorem throw_facts (g : Good P K t M s) (ht : t ≤ 16) (hB : 1 ≤ B ∧ B ≤ 20) {a : Nat} {n : Int} {ws : List Int} {w : Int} (c : Can P K s (.throw a n ws w)) :
    ∃ W : Nat, worth B s.ls ws w = W ∧ 0 < W ∧ W ≤ 2 ^ 150 ∧ cost B s.ls a n ws w = mkRat (n * ws.getD (at_ s.ls a).k 0) W ∧ Sh W (cost B s.ls a n ws w) := by
  obtain ⟨ha, n1, n2, lw, hv, hw⟩ := c
  obtain ⟨w1, w2, w3⟩ := worth_bd hB lw hv hw s.ls g.kd g.nn
  obtain ⟨b0, b1⟩ := mulb (by omega) hB.2 (by omega) hw.2
  have b2 : 1 * 1 ≤ B * w := Int.mul_le_mul hB.1 hw.1 (by decide) (by omega)
  have tt := g.tot
  have tb : ((4 : Int) + t) * 2 ^ 131 ≤ 20 * 2 ^ 131 := Int.mul_le_mul_of_nonneg_right (by omega) (by decide)
  obtain ⟨W, eW⟩ := Int.eq_ofNat_of_zero_le (a := worth B s.ls ws w) (by unfold worth; omega)
  have ew : (s.ls.map fun l => l.n * ws.getD l.k 0).sum + B * w = W := eW
  have W1 : W ≤ 2 ^ 150 := by omega
  have e1 : cost B s.ls a n ws w = mkRat (n * ws.getD (at_ s.ls a).k 0) W := by rw [cost, eW]; rfl
  refine ⟨W, eW, by omega, W1, e1, ?_⟩
  rw [e1]
  have ka := g.kd _ (at_mem ha)
  have hm : ws.getD (at_ s.ls a).k 0 ∈ ws := by
    rw [List.getD_eq_getElem?_getD, List.getElem?_eq_getElem (by omega)]
    exact List.getElem_mem _
  have hb := hv _ hm
  have w4 := w3 _ (at_mem ha)
  have w5 : n * ws.getD (at_ s.ls a).k 0 ≤ (at_ s.ls a).n * ws.getD (at_ s.ls a).k 0 := Int.mul_le_mul_of_nonneg_right n2 (by omega)
  have w6 : 0 ≤ n * ws.getD (at_ s.ls a).k 0 := Int.mul_nonneg (by omega) (by omega)
  exact sh_mk (by omega) w6 (by omega)
theorem mem_brS {P p : Nat} {q : Rat} (h : q ∈ brS P p) : q = 0 ∨ q = 1 := by
  obtain ⟨i, _, rfl⟩ := List.mem_map.1 h
  split
  · exact .inr rfl
  · exact .inl rfl
theorem s_one {t M : Nat} : Sq2 t M 1 := Sh.sq (M := M) ⟨Nat.one_dvd _, by decide, by decide⟩ t
theorem s_zero {t M : Nat} : Sq2 t M 0 := Sh.sq (M := M) ⟨Nat.one_dvd _, by decide, by decide⟩ t
theorem mem_soS {p q : Nat} {part x : Rat} {ss : List Rat} (h : x ∈ soS p q part ss) : x ∈ ss ∨ x = ss.getD p 0 - ss.getD p 0 * part ∨ x = ss.getD q 0 + ss.getD p 0 * part := by
  rcases List.mem_or_eq_of_mem_set h with h | h
  · rcases List.mem_or_eq_of_mem_set h with h | h
    · exact .inl h
    · exact .inr (.inl h)
  · exact .inr (.inr h)
theorem sq_soS {t M N p q : Nat} {part : Rat} {ss : List Rat} (hM : 0 < M) (hN : 0 < N) (hp : p < ss.length) (hq : q < ss.length) (hs : ∀ x ∈ ss, Sq2 t M x) (hpt : Sh N part) : ∀ x ∈ soS p q part ss, Sq2 (t + 1) (M * N) x := by
  intro x hx
  have sp := hs _ (getD_mem hp)
  have sq := hs _ (getD_mem hq)
  rcases mem_soS hx with h | rfl | rfl
  · exact (hs x h).mono (Nat.dvd_mul_right ..) (by omega)
  · have : ss.getD p 0 - ss.getD p 0 * part = ss.getD p 0 * (1 - part) := by grind
    rw [this]
    exact (sp.mul (hpt.compl hN)).mono (Nat.dvd_refl _) (by omega)
  · exact Sq2.add (Nat.mul_pos hM hN) (sq.mono (Nat.dvd_mul_right ..) (Nat.le_refl _)) (sp.mul hpt)
theorem step_good (g : Good P K t M s) (ht : t ≤ 16) (hB : 1 ≤ B ∧ B ≤ 20) {d : Dd} (c : Can P K s d) : ∃ M', Good P K (t + 1) M' (after1 P B s d) := by
  have up : ∀ {q}, Sq2 t M q → Sq2 (t + 1) M q := fun h => h.mono (Nat.dvd_refl _) (by omega)
  have Mup : M < 2 ^ (60 + 160 * (t + 1)) := Nat.lt_of_lt_of_le g.M1 (Nat.pow_le_pow_right (by decide) (by omega))
  have totup : ((4 : Int) + (t + 1 : Nat)) * 2 ^ 131 = (4 + t) * 2 ^ 131 + 2 ^ 131 := by
    rw [Int.natCast_add, show (4 : Int) + (t + (1 : Nat)) = (4 + t) + 1 by omega, Int.add_mul]; omega
  have gt := g.tot
  have gl := g.len
  have gn := g.nums
  have base : ∀ {ls' : List Ld} {nums' : List Int}, ls'.length ≤ 4 + (t + 1) → (∀ l ∈ ls', l.k < K ∧ 0 ≤ l.n ∧ l.sh.length = P ∧ ∀ q ∈ l.sh, Sq2 (t + 1) M q) → tot ls' ≤ tot s.ls + 2 ^ 131 → nums'.length ≤ t + 1 → Good P K (t + 1) M ⟨ls', s.hs, nums'⟩ := by
    intro ls' nums' h1 h2 h3 h4
    exact ⟨h1, fun l hl => (h2 l hl).1, fun l hl => (h2 l hl).2.1, by show tot ls' ≤ _; rw [totup]; omega, fun l hl => (h2 l hl).2.2, ⟨g.hs.1, fun q hq => up (g.hs.2 q hq)⟩, h4, g.M0, Mup⟩
  have old : ∀ l ∈ s.ls, l.k < K ∧ 0 ≤ l.n ∧ l.sh.length = P ∧ ∀ q ∈ l.sh, Sq2 (t + 1) M q := fun l hl => ⟨g.kd l hl, g.nn l hl, (g.sh l hl).1, fun q hq => up ((g.sh l hl).2 q hq)⟩
  have less : ∀ {a : Nat} {m : Int}, a < s.ls.length → m ≤ (at_ s.ls a).n → ∀ l ∈ lessL s.ls a (at_ s.ls a) m, l.k < K ∧ 0 ≤ l.n ∧ l.sh.length = P ∧ ∀ q ∈ l.sh, Sq2 (t + 1) M q := by
    intro a m ha hm l hl
    rcases mem_less hl with h | rfl
    · exact old l h
    · have := old _ (at_mem ha)
      exact ⟨this.1, by show 0 ≤ (at_ s.ls a).n - m; omega, this.2.2⟩
  have swap : ∀ {a k : Nat} {gv n : Int} {nums' : List Int}, a < s.ls.length → 1 ≤ gv → gv ≤ (at_ s.ls a).n → k < K → 1 ≤ n → n < 2 ^ 131 → nums'.length ≤ t + 1 → Good P K (t + 1) M ⟨lessL s.ls a (at_ s.ls a) gv ++ [⟨k, n, (at_ s.ls a).sh⟩], s.hs, nums'⟩ := by
    intro a k gv n nums' ha g1 g2 hk n1 n2 hn
    refine base (by simp [lessL]; omega) ?_ (by rw [tot_app, tot_less ha]; show _ - gv + n ≤ _; omega) hn
    intro l hl
    rcases List.mem_append.1 hl with hl | hl
    · exact less ha g2 l hl
    · rw [List.mem_singleton.1 hl]
      have := old _ (at_mem ha)
      exact ⟨hk, by show 0 ≤ n; omega, this.2.2⟩
  cases d with
  | bring p k n =>
    obtain ⟨hp, hk, n1, n2⟩ := c
    refine ⟨M, base (by simp; omega) ?_ (by rw [tot_app]; show _ + n ≤ _; omega) (by omega)⟩
    intro l hl
    rcases List.mem_append.1 hl with hl | hl
    · exact old l hl
    · rw [List.mem_singleton.1 hl]
      refine ⟨hk, by show 0 ≤ n; omega, by simp [brS], fun q hq => ?_⟩
      rcases mem_brS hq with rfl | rfl
      · exact s_zero
      · exact s_one
  | pool a b =>
    obtain ⟨hab, ha, hb, n1, n2, hk⟩ := c
    have tn := tot_nn g.nn
    have na := tn.2 _ (at_mem ha)
    have nb := tn.2 _ (at_mem hb)
    have sa := g.sh _ (at_mem ha)
    have sb := g.sh _ (at_mem hb)
    have tb : ((4 : Int) + t) * 2 ^ 131 ≤ 20 * 2 ^ 131 := Int.mul_le_mul_of_nonneg_right (by omega) (by decide)
    generalize hw : ((at_ s.ls a).n + (at_ s.ls b).n).toNat = w at *
    have w0 : 0 < w := by omega
    have w1 : w ≤ 2 ^ 150 := by omega
    have lb : (lessL s.ls a (at_ s.ls a) (at_ s.ls a).n)[b]? = some (at_ s.ls b) := by rw [lessL, List.getElem?_set_ne hab]; exact at_some hb
    have ab : at_ (lessL s.ls a (at_ s.ls a) (at_ s.ls a).n) b = at_ s.ls b := by
      have h1 := at_some (ls := lessL s.ls a (at_ s.ls a) (at_ s.ls a).n) (a := b) (by simpa [lessL] using hb)
      rw [lb] at h1
      exact (Option.some.inj h1).symm
    have tl : tot (lessL (lessL s.ls a (at_ s.ls a) (at_ s.ls a).n) b (at_ s.ls b) (at_ s.ls b).n) = tot s.ls - (at_ s.ls a).n - (at_ s.ls b).n := by
      have := tot_less (ls := lessL s.ls a (at_ s.ls a) (at_ s.ls a).n) (a := b) (m := (at_ s.ls b).n) (by simpa [lessL] using hb)
      rw [ab] at this
      rw [this, tot_less ha]
    have dv : M ∣ M * w := Nat.dvd_mul_right ..
    refine ⟨M * w, ?_⟩
    have all : ∀ l ∈ lessL (lessL s.ls a (at_ s.ls a) (at_ s.ls a).n) b (at_ s.ls b) (at_ s.ls b).n ++ [⟨(at_ s.ls a).k, (at_ s.ls a).n + (at_ s.ls b).n, plS (at_ s.ls a).n (at_ s.ls b).n (at_ s.ls a).sh (at_ s.ls b).sh⟩], l.k < K ∧ 0 ≤ l.n ∧ l.sh.length = P ∧ ∀ q ∈ l.sh, Sq2 (t + 1) (M * w) q := by
      intro l hl
      rcases List.mem_append.1 hl with hl | hl
      · rcases mem_less hl with h | rfl
        · have := less ha (Int.le_refl _) l h
          exact ⟨this.1, this.2.1, this.2.2.1, fun q hq => (this.2.2.2 q hq).mono dv (Nat.le_refl _)⟩
        · have := old _ (at_mem hb)
          exact ⟨this.1, by show 0 ≤ (at_ s.ls b).n - (at_ s.ls b).n; omega, this.2.2.1, fun q hq => (this.2.2.2 q hq).mono dv (Nat.le_refl _)⟩
      · rw [List.mem_singleton.1 hl]
        refine ⟨show (at_ s.ls a).k < K from g.kd _ (at_mem ha), by show 0 ≤ (at_ s.ls a).n + (at_ s.ls b).n; omega, by simp [plS, sa.1, sb.1], fun q hq => ?_⟩
        obtain ⟨x, hx, rfl⟩ := List.mem_map.1 hq
        have m1 := sa.2 _ (List.of_mem_zip hx).1
        have m2 := sb.2 _ (List.of_mem_zip hx).2
        have := Sq2.pool g.M0 (by omega) (by omega) (by omega) m1 m2 (n := (at_ s.ls a).n) (m := (at_ s.ls b).n)
        rw [hw] at this
        simp only [hw]
        exact this.mono (Nat.dvd_refl _) (by omega)
    exact ⟨by simp [after1, lessL]; omega, fun l hl => (all l hl).1, fun l hl => (all l hl).2.1, by
      show tot (_ ++ [_]) ≤ _
      rw [tot_app, tl, totup]
      show tot s.ls - (at_ s.ls a).n - (at_ s.ls b).n + ((at_ s.ls a).n + (at_ s.ls b).n) ≤ _
      omega, fun l hl => (all l hl).2.2, ⟨g.hs.1, fun q hq => (up (g.hs.2 q hq)).mono dv (Nat.le_refl _)⟩, by show s.nums.length ≤ t + 1; omega, Nat.mul_pos g.M0 w0, pow_mul_lt g.M1 w1 (by omega)⟩
  | swap a gv k n =>
    obtain ⟨ha, g1, g2, hk, _, n1, n2⟩ := c
    exact ⟨M, swap ha g1 g2 hk n1 n2 (by omega)⟩
  | trade no a gv k n =>
    obtain ⟨_, ha, g1, g2, hk, _, n1, n2⟩ := c
    exact ⟨M, swap ha g1 g2 hk n1 n2 (by simp; omega)⟩
  | spoil a n =>
    obtain ⟨ha, n1, n2⟩ := c
    exact ⟨M, base (by simp [lessL]; omega) (less ha n2) (by rw [tot_less ha]; omega) (by omega)⟩
  | throw a n ws w =>
    obtain ⟨W, eW, W0, W1, ec, hp⟩ := throw_facts g ht hB c
    obtain ⟨ha, n1, n2, lw, hv, hw⟩ := c
    have dv : M ∣ M * W := Nat.dvd_mul_right ..
    have sa := g.sh _ (at_mem ha)
    have bo : ∀ {ss : List Rat}, ss.length = P → (∀ q ∈ ss, Sq2 t M q) → (borne (cost B s.ls a n ws w) (at_ s.ls a).sh ss).length = P ∧ ∀ q ∈ borne (cost B s.ls a n ws w) (at_ s.ls a).sh ss, Sq2 (t + 1) (M * W) q := by
      intro ss hl hs
      refine ⟨by simp [borne, hl, sa.1], fun q hq => ?_⟩
      obtain ⟨x, hx, rfl⟩ := List.mem_map.1 hq
      exact (Sq2.borne g.M0 W0 (hs _ (List.of_mem_zip hx).1) (sa.2 _ (List.of_mem_zip hx).2) hp).mono (Nat.dvd_refl _) (by omega)
    have oldl : ∀ l ∈ lessL s.ls a (at_ s.ls a) n, l.k < K ∧ 0 ≤ l.n ∧ l.sh.length = P ∧ ∀ q ∈ l.sh, Sq2 t M q := by
      intro l hl
      rcases mem_less hl with h | rfl
      · exact ⟨g.kd l h, g.nn l h, g.sh l h⟩
      · exact ⟨show (at_ s.ls a).k < K from g.kd _ (at_mem ha), by show 0 ≤ (at_ s.ls a).n - n; omega, sa⟩
    have all : ∀ l ∈ thrL (cost B s.ls a n ws w) (at_ s.ls a).sh (lessL s.ls a (at_ s.ls a) n), l.k < K ∧ 0 ≤ l.n ∧ l.sh.length = P ∧ ∀ q ∈ l.sh, Sq2 (t + 1) (M * W) q := by
      intro l hl
      obtain ⟨l', hl', rfl⟩ := List.mem_map.1 hl
      have := oldl l' hl'
      exact ⟨this.1, this.2.1, bo this.2.2.1 this.2.2.2⟩
    refine ⟨M * W, by simp [after1, thrL, lessL]; omega, fun l hl => (all l hl).1, fun l hl => (all l hl).2.1, ?_, fun l hl => (all l hl).2.2, bo g.hs.1 g.hs.2, by show s.nums.length ≤ t + 1; omega, Nat.mul_pos g.M0 W0, pow_mul_lt g.M1 W1 (by omega)⟩
    have e : tot (thrL (cost B s.ls a n ws w) (at_ s.ls a).sh (lessL s.ls a (at_ s.ls a) n)) = tot (lessL s.ls a (at_ s.ls a) n) := by simp [tot, thrL, List.map_map, Function.comp_def]
    show tot (thrL (cost B s.ls a n ws w) (at_ s.ls a).sh (lessL s.ls a (at_ s.ls a) n)) ≤ _
    rw [e, tot_less ha, totup]; omega
  | sell p q part =>
    obtain ⟨hpq, hp, hq, N, N0, N1, hpt⟩ := c
    have all : ∀ l ∈ solL p q part s.ls, l.k < K ∧ 0 ≤ l.n ∧ l.sh.length = P ∧ ∀ q ∈ l.sh, Sq2 (t + 1) (M * N) q := by
      intro l hl
      obtain ⟨l', hl', rfl⟩ := List.mem_map.1 hl
      have sh := g.sh l' hl'
      exact ⟨g.kd l' hl', g.nn l' hl', by simp [soS, sh.1], sq_soS g.M0 N0 (by omega) (by omega) sh.2 hpt⟩
    refine ⟨M * N, by simp [after1, solL]; omega, fun l hl => (all l hl).1, fun l hl => (all l hl).2.1, ?_, fun l hl => (all l hl).2.2, ⟨by simp [after1, soS, g.hs.1], sq_soS g.M0 N0 (by have := g.hs.1; omega) (by have := g.hs.1; omega) g.hs.2 hpt⟩, by show s.nums.length ≤ t + 1; omega, Nat.mul_pos g.M0 N0, pow_mul_lt (n := 4) g.M1 (by omega) (by omega)⟩
    have e : tot (solL p q part s.ls) = tot s.ls := by simp [tot, solL, List.map_map, Function.comp_def]
    show tot (solL p q part s.ls) ≤ _
    rw [e, totup]; omega
theorem step_ok (g : Good P K t M s) (ht : t ≤ 16) (hB : 1 ≤ B ∧ B ≤ 20) (hP : P ≤ 900) {d : Dd} (c : Can P K s d) (hold : List Rat) (x y : Int) : Step (trD P K B hold x y) s.d d.d (after1 P B s d).d := by
  have gl := g.len
  have gn := g.nums
  have M2 : M < 2 ^ 2760 := Nat.lt_of_lt_of_le g.M1 (Nat.pow_le_pow_right (by decide) (by omega))
  have sc : ∀ {q}, Sq2 t M q → Sc M q := fun h => h.sc (by omega)
  intro k h
  cases d with
  | bring p kd n => exact ⟨can_bring (k + 7) _ _ _ h p kd n, done_bring (k + 7) _ _ _ h P K B x y hold p kd n (by omega) (by omega)⟩
  | pool a b =>
    obtain ⟨hab, ha, hb, n1, n2, hk⟩ := c
    have tn := tot_nn g.nn
    have na := tn.2 _ (at_mem ha)
    have nb := tn.2 _ (at_mem hb)
    have sa := g.sh _ (at_mem ha)
    have sb := g.sh _ (at_mem hb)
    have gt := g.tot
    have tb : ((4 : Int) + t) * 2 ^ 131 ≤ 20 * 2 ^ 131 := Int.mul_le_mul_of_nonneg_right (by omega) (by decide)
    refine ⟨can_pool (k + 6) _ _ _ h a b _ _ (at_some ha) (at_some hb) n1 n2 hk, ?_⟩
    exact done_pool (k + 7) _ _ _ h _ a b _ (pooled_ok (k + 3) s.ls a b _ _ M h (at_some ha) (at_some hb) hab (by omega) g.M0 (Nat.lt_of_lt_of_le M2 (Nat.pow_le_pow_right (by decide) (by decide))) (fun q hq => sc (sa.2 q hq)) (fun q hq => sc (sb.2 q hq)) (by omega) ⟨n1, by omega⟩ ⟨n2, by omega⟩)
  | swap a gv kd n =>
    obtain ⟨ha, g1, g2, hk, hne, n1, n2⟩ := c
    exact ⟨can_swap (k + 6) _ _ _ h a gv kd n _ (at_some ha) g2 hne, done_swap (k + 6) _ _ _ h _ a gv kd n _ (at_some ha) (by omega)⟩
  | trade no a gv kd n =>
    obtain ⟨hno, ha, g1, g2, hk, hne, n1, n2⟩ := c
    exact ⟨can_trade (k + 5) _ _ _ h no a gv kd n _ hno (at_some ha) g2 hne, done_trade (k + 5) _ _ _ h _ no a gv kd n _ (at_some ha) (by omega) (by omega)⟩
  | spoil a n =>
    obtain ⟨ha, n1, n2⟩ := c
    exact ⟨can_spoil (k + 6) _ _ _ a n _ h (at_some ha) n2, done_spoil (k + 6) _ _ _ _ a n _ h (at_some ha) (by omega)⟩
  | throw a n ws w =>
    obtain ⟨W, eW, W0, W1, ec, hp⟩ := throw_facts g ht hB c
    obtain ⟨ha, n1, n2, lw, hv, hw⟩ := c
    refine ⟨can_throw (k + 6) _ _ _ a n _ _ h (at_some ha) n2, ?_⟩
    have MW : M * W < 2 ^ 4400 := pow_mul_lt M2 W1 (by decide)
    have b64 : ∀ {v : Int}, 1 ≤ v ∧ v ≤ 99 → v.natAbs < big64 := fun {v} hv => by unfold big64; omega
    rw [ec] at hp
    have := done_throw (k := k + 7) (thrown_ok (k + 2) P K B hold x y s.ls s.hs s.nums a n ws w _ M W h (by omega) (fun l hl => by rw [lw]; exact g.kd l hl) (fun v hvm => b64 (hv v hvm)) (b64 hw) (at_some ha) eW W0 g.M0 MW
      (fun l hl => ⟨fun q hq => sc ((g.sh l hl).2 q hq), by have := (g.sh l hl).1; omega⟩) ⟨fun q hq => sc (g.hs.2 q hq), by have := g.hs.1; omega⟩ hp)
    rw [← ec] at this
    exact this
  | sell p q part =>
    obtain ⟨hpq, hp, hq, N, N0, N1, hpt⟩ := c
    refine ⟨can_sell (k + 7) _ _ _ h p q part, ?_⟩
    have MN : M * N < 2 ^ 4400 := pow_mul_lt (n := 4) M2 (by omega) (by decide)
    exact done_sell (k + 3) _ _ _ h M N _ p q part (by omega) hpq g.M0 N0 MN (fun l hl => ⟨fun z hz => sc ((g.sh l hl).2 z hz), by have := (g.sh l hl).1; omega, by have := (g.sh l hl).1; omega⟩) ⟨fun z hz => sc (g.hs.2 z hz), by have := g.hs.1; omega, by have := g.hs.1; omega⟩ hpt
end

theorem u_ixL {p : Nat} {ds : List D} {i : Int} {h : Hv} (hp : h[p]? = some (.lst ds)) : opIx (.ref p) (.int i) h = om (atI ds i) (fun d => .ok d h) .stuck := ix_ref _ _ _ _ hp
theorem _law_pieces_ok (k : Nat) (h0 : Hv) (pen : List D) (g : Hv) (hpn : PenOk pen) :
    ∃ (n : Int) (pen' : List D), 1 ≤ n ∧ n < 2 ^ 131 ∧ PenOk pen' ∧ callK T (k + 2) "_law_pieces" [.ref h0.length] (hp h0 pen g) = .ok (.int n) (hp h0 pen' g) := by
  obtain ⟨r1, p1, a1, b1, hp1, e1⟩ := _law_draw_ok k 99 h0 pen g (by decide) (by decide) hpn
  obtain ⟨r2, p2, a2, b2, hp2, e2⟩ := _law_draw_ok k 4 h0 p1 g (by decide) (by decide) hp1
  obtain ⟨r3, p3, a3, b3, hp3, e3⟩ := _law_draw_ok k 40 h0 p2 g (by decide) (by decide) hp2
  obtain ⟨r4, p4, a4, b4, hp4, e4⟩ := _law_draw_ok k 999 h0 p3 g (by decide) (by decide) hp3
  obtain ⟨r5, p5, a5, b5, hp5, e5⟩ := _law_draw_ok k 7 h0 p4 (g ++ [.lst [.int (1 + r2), .int (1 + r3), .int (1 + r4), .int (10 ^ 30 + r1)]]) (by decide) (by decide) hp4
  have fin : ∀ n : Int, atI [D.int (1 + r2), .int (1 + r3), .int (1 + r4), .int (10 ^ 30 + r1)] (r5 / 2) = some (.int n) → callK T (k + 2) "_law_pieces" [.ref h0.length] (hp h0 pen g) = .ok (.int n) (hp h0 p5 g) := by
    intro n hn
    rw [callK_eq t__law_pieces]
    refine (run_rt rfl ?_).trans (gc_hp (g' := [.lst [.int (1 + r2), .int (1 + r3), .int (1 + r4), .int (10 ^ 30 + r1)]]) rfl hp5.grs)
    have ep : ∀ h, opPow (.int 10) (.int 30) h = .ok (.int (10 ^ 30)) h := fun h => by simp [opPow, big64]
    have ed : ∀ h, opFdiv (.int r5) (.int 2) h = .ok (.int (r5 / 2)) h := fun h => fdiv_ok (by decide) (bigM_le (k := 2) (by decide) (by decide))
    have ex := u_ixL (p := h0.length + 1 + g.length) (ds := [.int (1 + r2), .int (1 + r3), .int (1 + r4), .int (10 ^ 30 + r1)]) (i := r5 / 2) (h := hp h0 p5 (g ++ [.lst [.int (1 + r2), .int (1 + r3), .int (1 + r4), .int (10 ^ 30 + r1)]])) (by rw [hp_get1]; simp)
    rw [hn] at ex
    have i0 : ∀ h, opAdd (.int (10 ^ 30)) (.int r1) h = .ok (.int (10 ^ 30 + r1)) h := fun h => rfl
    simp only [R__law_pieces, F__law_pieces, u_seq, u_asg, u_bin, u_con, u_call, u_list, u_list0, u_var, u_ret, u_lst, List.map_cons, List.map_nil, List.replicate, List.cons_append, List.nil_append, List.getElem?_cons_succ, List.getElem?_cons_zero, bind_ok, ep, e1, i0, thenS_ok, u_nm, List.length_cons, List.length_nil, Nat.reduceAdd, Nat.reduceSub, Nat.reduceLT, Nat.reduceLeDiff, if_true, om_some, List.set_cons_succ, List.set_cons_zero, nxt_nx, e2, e3, e4, u_add, hp_len, hp_app, e5, ed, ex, nxt_rt]
  have hr : r5 / 2 = 0 ∨ r5 / 2 = 1 ∨ r5 / 2 = 2 ∨ r5 / 2 = 3 := by omega
  rcases hr with e | e | e | e
  · exact ⟨1 + r2, p5, by omega, by omega, hp5, fin _ (by rw [e, at0])⟩
  · exact ⟨1 + r3, p5, by omega, by omega, hp5, fin _ (by rw [e, at1])⟩
  · exact ⟨1 + r4, p5, by omega, by omega, hp5, fin _ (by rw [e, at2])⟩
  · exact ⟨10 ^ 30 + r1, p5, by omega, by omega, hp5, fin _ (by rw [e, at3])⟩
theorem _law_share_ok (k : Nat) (h0 : Hv) (pen : List D) (g : Hv) (hpn : PenOk pen) :
    ∃ (q : Rat) (N : Nat) (pen' : List D), 0 < N ∧ N ≤ 12 ∧ Sh N q ∧ PenOk pen' ∧ callK T (k + 3) "_law_share" [.ref h0.length] (hp h0 pen g) = .ok (am q) (hp h0 pen' g) := by
  obtain ⟨r1, p1, a1, b1, hp1, e1⟩ := _law_draw_ok (k + 1) 12 h0 pen g (by decide) (by decide) hpn
  obtain ⟨N, eN⟩ := Int.eq_ofNat_of_zero_le (a := 1 + r1) (by omega)
  obtain ⟨r2, p2, a2, b2, hp2, e2⟩ := _law_draw_ok (k + 1) N h0 p1 g (by omega) (by omega) hp1
  have em := _law_made_ok k (1 + r2) N (hp h0 p2 g) (by omega) (bigM_le (k := 4) (by omega) (by decide))
  refine ⟨mkRat (1 + r2) N, N, p2, by omega, by omega, sh_mk (by omega) (by omega) (by omega), hp2, ?_⟩
  rw [callK_eq t__law_share]
  refine (run_rt rfl ?_).trans (gc_hp0 rfl hp2.grs)
  simp [u_var, R__law_share, F__law_share, e1, eN, e2, em, List.replicate]
theorem _law_train_ok (k : Nat) (h0 : Hv) (pen : List D) (g : Hv) (hpn : PenOk pen) :
    ∃ (P K : Nat) (B x y : Int) (hold : List Rat) (s : Nat) (pen' : List D), 1 ≤ P ∧ P ≤ 4 ∧ 1 ≤ K ∧ K ≤ 5 ∧ 1 ≤ B ∧ B ≤ 20 ∧ 0 ≤ x ∧ x ≤ 9 ∧ 0 ≤ y ∧ y ≤ 9 ∧ 0 < s ∧ s ≤ 33 ∧ hold.length = P ∧ (∀ q ∈ hold, Sh s q) ∧ hold.sum = 1 ∧ PenOk pen' ∧
      callK T (k + 4) "_law_train" [.ref h0.length] (hp h0 pen g) = .ok (trD P K B hold x y) (hp h0 pen' g) := by
  obtain ⟨r1, p1, a1, b1, hp1, e1⟩ := _law_draw_ok (k + 2) 4 h0 pen g (by decide) (by decide) hpn
  obtain ⟨r2, p2, a2, b2, hp2, e2⟩ := _law_draw_ok (k + 2) 5 h0 p1 g (by decide) (by decide) hp1
  obtain ⟨r3, p3, a3, b3, hp3, e3⟩ := _law_draw_ok (k + 2) 3 h0 p2 g (by decide) (by decide) hp2
  obtain ⟨r4, p4, a4, b4, hp4, e4⟩ := _law_draw_ok (k + 2) 20 h0 p3 g (by decide) (by decide) hp3
  obtain ⟨r5, p5, a5, b5, hp5, e5⟩ := _law_draw_ok (k + 2) 2 h0 p4 (g ++ [.lst [.int (1 + r3), .int (1 + r4)]]) (by decide) (by decide) hp4
  obtain ⟨P, eP⟩ := Int.eq_ofNat_of_zero_le (a := 1 + r1) (by omega)
  obtain ⟨K, eK⟩ := Int.eq_ofNat_of_zero_le (a := 1 + r2) (by omega)
  obtain ⟨s, qs, p6, s0, s1, lq, hq, sq, hp6, e6⟩ := _law_whole_ok k P h0 p5 (g ++ [.lst [.int (1 + r3), .int (1 + r4)]]) (by omega) (by omega) hp5
  obtain ⟨r7, p7, a7, b7, hp7, e7⟩ := _law_draw_ok (k + 2) 10 h0 p6 (g ++ [.lst [.int (1 + r3), .int (1 + r4)]]) (by decide) (by decide) hp6
  obtain ⟨r8, p8, a8, b8, hp8, e8⟩ := _law_draw_ok (k + 2) 10 h0 p7 (g ++ [.lst [.int (1 + r3), .int (1 + r4)]]) (by decide) (by decide) hp7
  have fin : ∀ B : Int, atI [D.int (1 + r3), .int (1 + r4)] r5 = some (.int B) → callK T (k + 4) "_law_train" [.ref h0.length] (hp h0 pen g) = .ok (trD P K B qs r7 r8) (hp h0 p8 g) := by
    intro B hn
    rw [callK_eq t__law_train]
    have gr : (trD P K B qs r7 r8).gr = true := by simp [trD, D.gr, D.grs, shD_gr]
    refine (run_rt rfl ?_).trans (gc_hp (g' := [.lst [.int (1 + r3), .int (1 + r4)]]) gr hp8.grs)
    have ex := u_ixL (p := h0.length + 1 + g.length) (ds := [.int (1 + r3), .int (1 + r4)]) (i := r5) (h := hp h0 p5 (g ++ [.lst [.int (1 + r3), .int (1 + r4)]])) (by rw [hp_get1]; simp)
    rw [hn] at ex
    simp [u_var, R__law_train, F__law_train, e1, e2, e3, e4, e5, ex, eP, eK, e6, e7, e8, List.replicate]
    rfl
  have hr : r5 = 0 ∨ r5 = 1 := by omega
  rcases hr with e | e
  · exact ⟨P, K, _, r7, r8, qs, s, p8, by omega, by omega, by omega, by omega, by omega, by omega, by omega, by omega, by omega, by omega, s0, by omega, lq, hq, sq, hp8, fin (1 + r3) (by rw [e, at0])⟩
  · exact ⟨P, K, _, r7, r8, qs, s, p8, by omega, by omega, by omega, by omega, by omega, by omega, by omega, by omega, by omega, by omega, s0, by omega, lq, hq, sq, hp8, fin (1 + r4) (by rw [e, at1])⟩

/-- the loads a book begins with -/
structure First (P K : Nat) (ls : List Ld) (M : Nat) : Prop where
  len : ls.length ≤ 4
  kd : ∀ l ∈ ls, l.k < K
  n : ∀ l ∈ ls, 1 ≤ l.n ∧ l.n < 2 ^ 131
  sh : ∀ l ∈ ls, l.sh.length = P ∧ ∀ q ∈ l.sh, Sh M q
  M0 : 0 < M
  one : ∀ l ∈ ls, l.sh.sum = 1
theorem _law_first_ok (k : Nat) (P K : Nat) (B x y : Int) (hold : List Rat) (h0 : Hv) (pen : List D) (g : Hv) (hP : 1 ≤ P ∧ P ≤ 4) (hK : 1 ≤ K ∧ K ≤ 5) (hpn : PenOk pen) :
    ∃ (ls : List Ld) (M : Nat) (pen' : List D), First P K ls M ∧ M ≤ 33 ^ 4 ∧ PenOk pen' ∧
      callK T (k + 4) "_law_first" [.ref h0.length, trD P K B hold x y] (hp h0 pen g) = .ok (lsD ls) (hp h0 pen' g) := by
  have t0 : ∀ h, opIx (trD P K B hold x y) (.int 0) h = .ok (.int P) h := fun h => by simp [trD]
  have t1 : ∀ h, opIx (trD P K B hold x y) (.int 1) h = .ok (.int K) h := fun h => by simp [trD]
  obtain ⟨r1, p1, a1, b1, hp1, e1⟩ := _law_draw_ok (k + 2) 5 h0 pen (g ++ [.lst []]) (by decide) (by decide) hpn
  obtain ⟨r2, p2, a2, b2, hp2, e2⟩ := _law_draw_ok (k + 2) 3 h0 p1 (g ++ [.lst [], .lst [.int 0, .int 1, .int r1]]) (by decide) (by decide) hp1
  generalize htr : trD P K B hold x y = tr at *
  have hit : ∃ n : Nat, n ≤ 4 ∧ it1F (binF opIx (lstF [(conF (.int 0)), (conF (.int 1)), (callF "_law_draw" [(varF 0), (conF (.int 5))])]) (callF "_law_draw" [(varF 0), (conF (.int 3))])) (callK T (k + 3)) [some (.ref h0.length), some tr, some (.ref (h0.length + 1 + g.length)), none] (hp h0 pen (g ++ [.lst []])) =
      .ok ((List.range n).map fun i => .int (i : Nat), []) (hp h0 p2 (g ++ [.lst [], .lst [.int 0, .int 1, .int r1]])) := by
    have ex := u_ixL (p := h0.length + 1 + (g.length + 1)) (ds := [.int 0, .int 1, .int r1]) (i := r2) (h := hp h0 p2 (g ++ [.lst [], .lst [.int 0, .int 1, .int r1]])) (by rw [hp_get1]; simp)
    have hr : r2 = 0 ∨ r2 = 1 ∨ r2 = 2 := by omega
    rcases hr with rfl | rfl | rfl
    · exact ⟨0, by omega, it1_ok (n := 0) (by rw [at0] at ex; simp [u_var, e1, e2, ex]) (by omega)⟩
    · exact ⟨1, by omega, it1_ok (n := 1) (by rw [at1] at ex; simp [u_var, e1, e2, ex]) (by omega)⟩
    · obtain ⟨n, rfl⟩ := Int.eq_ofNat_of_zero_le a1
      exact ⟨n, by omega, it1_ok (n := n) (by rw [at2] at ex; simp [u_var, e1, e2, ex]) (by omega)⟩
  obtain ⟨n, hn, hit⟩ := hit
  generalize hg1 : ([.lst [.int 0, .int 1, .int r1]] : Hv) = g1 at *
  obtain ⟨env', h', e, pz⟩ := for_inv (C := callK T (k + 3)) (tg := nmT 3) (body := (seqS (expS (methF mAppend (varF 2) [(tupF [(callF "_law_draw" [(varF 0), (binF opIx (varF 1) (conF (.int 1)))]), (callF "_law_pieces" [(varF 0)]), (callF "_law_whole" [(varF 0), (binF opIx (varF 1) (conF (.int 0)))])])])) nxS)) (gs := [])
    (P := fun xs env h1 => ∃ (ls : List Ld) (M : Nat) (pen' : List D) (z : Option D), ls.length + xs.length ≤ 4 ∧ First P K ls M ∧ M ≤ 33 ^ ls.length ∧ PenOk pen' ∧ env = [some (.ref h0.length), some tr, some (.ref (h0.length + 1 + g.length)), z] ∧ h1 = hp h0 pen' (g ++ .lst (ls.map ldD) :: g1))
    (fun _ _ _ _ => rfl)
    (by
      rintro d xs env h1 ⟨ls, M, pen', z, hl, hf, hM, hpn', rfl, rfl⟩
      simp only [List.length_cons] at hl
      refine ⟨[some (.ref h0.length), some tr, some (.ref (h0.length + 1 + g.length)), some d], rfl, ?_⟩
      obtain ⟨r3, p3, a3, b3, hp3, e3⟩ := _law_draw_ok (k + 2) K h0 pen' (g ++ .lst (ls.map ldD) :: g1) (by omega) (by omega) hpn'
      obtain ⟨c, rfl⟩ := Int.eq_ofNat_of_zero_le a3
      obtain ⟨m, p4, a4, b4, hp4, e4⟩ := _law_pieces_ok (k + 1) h0 p3 (g ++ .lst (ls.map ldD) :: g1) hp3
      obtain ⟨s, qs, p5, s0, s1, lq, hq, sq, hp5, e5⟩ := _law_whole_ok k P h0 p4 (g ++ .lst (ls.map ldD) :: g1) (by omega) (by omega) hp4
      have il : ∀ pen, isLst (.ref (h0.length + 1 + g.length)) (hp h0 pen (g ++ .lst (ls.map ldD) :: g1)) = true := fun pen => by
        have : (hp h0 pen (g ++ .lst (ls.map ldD) :: g1))[h0.length + 1 + g.length]? = some (.lst (ls.map ldD)) := by rw [hp_get1]; simp
        simp only [isLst, this]
      have ap : mAppend (.ref (h0.length + 1 + g.length)) [.tup [.int c, .int m, .tup (qs.map am)]] (hp h0 p5 (g ++ .lst (ls.map ldD) :: g1)) = .ok .non (hp h0 p5 (g ++ .lst ((ls ++ [(⟨c, m, qs⟩ : Ld)]).map ldD) :: g1)) := by
        have : (hp h0 p5 (g ++ .lst (ls.map ldD) :: g1))[h0.length + 1 + g.length]? = some (.lst (ls.map ldD)) := by rw [hp_get1]; simp
        simp only [mAppend, this, List.length_map]
        rw [if_pos (by unfold szl; omega), hp_set1, g_set, List.map_append]
        rfl
      refine ⟨[some (.ref h0.length), some tr, some (.ref (h0.length + 1 + g.length)), some d], _, ?_, ls ++ [⟨c, m, qs⟩], M * s, p5, some d, by simp; omega, ?_, ?_, hp5, rfl, rfl⟩
      · simp [u_var, methF, il, t1, e3, e4, t0, e5, ap]
      · have all : ∀ l ∈ ls ++ [⟨c, m, qs⟩], l.k < K ∧ (1 ≤ l.n ∧ l.n < 2 ^ 131) ∧ l.sh.length = P ∧ ∀ q ∈ l.sh, Sh (M * s) q := by
          intro l hl
          rcases List.mem_append.1 hl with hl | hl
          · exact ⟨hf.kd l hl, hf.n l hl, (hf.sh l hl).1, fun q hq => ((hf.sh l hl).2 q hq).mono (Nat.dvd_mul_right ..)⟩
          · rw [List.mem_singleton.1 hl]
            exact ⟨by show c < K; omega, ⟨a4, b4⟩, lq, fun q hq' => (hq q hq').mono (Nat.dvd_mul_left ..)⟩
        exact ⟨by simp; omega, fun l hl => (all l hl).1, fun l hl => (all l hl).2.1, fun l hl => (all l hl).2.2, Nat.mul_pos hf.M0 s0, fun l hl => by
            rcases List.mem_append.1 hl with hl | hl
            · exact hf.one l hl
            · rw [List.mem_singleton.1 hl]; exact sq⟩
      · rw [List.length_append, List.length_singleton, Nat.pow_succ]
        exact Nat.mul_le_mul hM (by omega))
    ((List.range n).map fun i => .int (i : Nat)) [some (.ref h0.length), some tr, some (.ref (h0.length + 1 + g.length)), none] (hp h0 p2 (g ++ .lst [] :: g1))
    ⟨[], 1, p2, none, by simpa using hn, ⟨by simp, by simp, by simp, by simp, by decide, by simp⟩, by simp, hp2, rfl, rfl⟩
  obtain ⟨ls, M, pen', z, hl, hf, hM, hpn', rfl, rfl⟩ := pz
  refine ⟨ls, M, pen', hf, Nat.le_trans hM (Nat.pow_le_pow_right (by decide) hf.len), hpn', ?_⟩
  rw [callK_eq t__law_first]
  refine (run_rt rfl ?_).trans (gc_hp (g' := .lst (ls.map ldD) :: g1) (lsD_gr ls) hpn'.grs)
  have et := u_tuplel (p := h0.length + 1 + g.length) (ds := ls.map ldD) (h := hp h0 pen' (g ++ .lst (ls.map ldD) :: g1)) (by rw [hp_get1]; simp)
  simp [-u_for, u_var, R__law_first, F__law_first, List.replicate]
  rw [u_for, hit]
  simp only [thenI_ok, e]
  simp [u_var, et]
  rfl

def lo {α : Type} (o : Option Ob) (f : List D → α) (s : α) : α := match o with
  | some (.lst ds) => f ds
  | _ => s
@[simp] theorem lo_lst {α : Type} (ds : List D) (f : List D → α) (s : α) : lo (some (.lst ds)) f s = f ds := rfl
def oo {α : Type} (o : Option Ob) (f : List D → α) (s : α) : α := match o with
  | some (.lst ds) => f ds
  | some (.ro ds) => f ds
  | none => s
@[simp] theorem oo_lst {α : Type} (ds : List D) (f : List D → α) (s : α) : oo (some (.lst ds)) f s = f ds := rfl
theorem u_tupTR (ts p env) (h : Hv) : tupT ts (.ref p) env h = lo h[p]? (fun ds => tgsT ts ds env h) none := by
  simp only [tupT, lo]
  all_goals (rcases h[p]? with _ | o; rfl; cases o <;> rfl)
/-! the law's own state: a list of a list of loads (each a list), the holders, a list of numbers -/
structure Lay where
  s : Nat
  L : Nat
  N : Nat
  rows : List Nat
def Lay.refs (y : Lay) : List Nat := y.s :: y.L :: y.N :: y.rows
def rowO (l : Ld) : Ob := .lst [.int l.k, .int l.n, shD l.sh]
structure SAt (h : Hv) (y : Lay) (S : Sta) : Prop where
  s : h[y.s]? = some (.lst [.ref y.L, shD S.hs, .ref y.N])
  L : h[y.L]? = some (.lst (y.rows.map .ref))
  N : h[y.N]? = some (.lst (S.nums.map .int))
  len : y.rows.length = S.ls.length
  row : ∀ (i r : Nat) (l : Ld), y.rows[i]? = some r → S.ls[i]? = some l → h[r]? = some (rowO l)
  nd : y.refs.Nodup
theorem SAt.frame {h h' : Hv} {y : Lay} {S : Sta} (a : SAt h y S) (f : ∀ r ∈ y.refs, h'[r]? = h[r]?) : SAt h' y S :=
  ⟨by rw [f _ (by simp [Lay.refs])]; exact a.s, by rw [f _ (by simp [Lay.refs])]; exact a.L, by rw [f _ (by simp [Lay.refs])]; exact a.N, a.len,
    fun i r l hr hl => by rw [f r (by simp [Lay.refs, List.mem_of_getElem? hr])]; exact a.row i r l hr hl, a.nd⟩
theorem SAt.ne {h : Hv} {y : Lay} {S : Sta} (a : SAt h y S) : y.s ≠ y.L ∧ y.s ≠ y.N ∧ y.L ≠ y.N ∧ y.s ∉ y.rows ∧ y.L ∉ y.rows ∧ y.N ∉ y.rows ∧ y.rows.Nodup := by
  have := a.nd
  simp only [Lay.refs, List.nodup_cons, List.mem_cons, not_or] at this
  obtain ⟨⟨h1, h2, h3⟩, ⟨h4, h5⟩, h6, h7⟩ := this
  exact ⟨h1, h2, h4, h3, h5, h6, h7⟩
theorem SAt.lt {h : Hv} {y : Lay} {S : Sta} (a : SAt h y S) : ∀ r ∈ y.refs, r < h.length := by
  intro r hr
  simp only [Lay.refs, List.mem_cons] at hr
  rcases hr with rfl | rfl | rfl | hr
  · exact (List.getElem?_eq_some_iff.1 a.s).1
  · exact (List.getElem?_eq_some_iff.1 a.L).1
  · exact (List.getElem?_eq_some_iff.1 a.N).1
  · obtain ⟨i, hi⟩ := List.getElem?_of_mem hr
    have h1 := (List.getElem?_eq_some_iff.1 hi).1
    have := a.len
    exact (List.getElem?_eq_some_iff.1 (a.row i r _ hi (List.getElem?_eq_getElem (by omega)))).1
theorem SAt.rowAt {h : Hv} {y : Lay} {S : Sta} (a : SAt h y S) {i : Nat} (hi : i < S.ls.length) : ∃ r, y.rows[i]? = some r ∧ r ∈ y.rows ∧ h[r]? = some (rowO (at_ S.ls i)) := by
  have h1 : i < y.rows.length := by have := a.len; omega
  exact ⟨y.rows[i], List.getElem?_eq_getElem h1, List.getElem_mem h1, a.row i _ _ (List.getElem?_eq_getElem h1) (at_some hi)⟩
theorem SAt.setRow {h : Hv} {y : Lay} {S : Sta} (a : SAt h y S) {i r : Nat} (hr : y.rows[i]? = some r) (l : Ld) : SAt (h.set r (rowO l)) y ⟨S.ls.set i l, S.hs, S.nums⟩ := by
  obtain ⟨h1, h2, h3, h4, h5, h6, h7⟩ := a.ne
  have mr := List.mem_of_getElem? hr
  have lr := a.lt r (by simp [Lay.refs, mr])
  have n1 : r ≠ y.s := fun e => h4 (e ▸ mr)
  have n2 : r ≠ y.L := fun e => h5 (e ▸ mr)
  have n3 : r ≠ y.N := fun e => h6 (e ▸ mr)
  refine ⟨by rw [List.getElem?_set_ne n1]; exact a.s, by rw [List.getElem?_set_ne n2]; exact a.L, by rw [List.getElem?_set_ne n3]; exact a.N, by simp [a.len], ?_, a.nd⟩
  intro j r' l' hr' hl'
  by_cases e : j = i
  · subst e
    rw [hr] at hr'
    cases hr'
    have hj := (List.getElem?_eq_some_iff.1 hl').1
    rw [List.length_set] at hj
    rw [List.getElem?_set_self hj] at hl'
    cases hl'
    rw [List.getElem?_set_self lr]
  · rw [List.getElem?_set_ne (Ne.symm e)] at hl'
    have : r ≠ r' := by
      intro e2
      subst e2
      obtain ⟨g1, g2⟩ := List.getElem?_eq_some_iff.1 hr
      obtain ⟨g3, g4⟩ := List.getElem?_eq_some_iff.1 hr'
      exact e ((List.getElem_inj h7).1 (g4.trans g2.symm))
    rw [List.getElem?_set_ne this]
    exact a.row j r' l' hr' hl'
theorem SAt.setHold {h : Hv} {y : Lay} {S : Sta} (a : SAt h y S) (hs : List Rat) : SAt (h.set y.s (.lst [.ref y.L, shD hs, .ref y.N])) y ⟨S.ls, hs, S.nums⟩ := by
  obtain ⟨h1, h2, h3, h4, h5, h6, h7⟩ := a.ne
  have l1 := a.lt y.s (by simp [Lay.refs])
  refine ⟨List.getElem?_set_self l1, by rw [List.getElem?_set_ne h1]; exact a.L, by rw [List.getElem?_set_ne h2]; exact a.N, a.len, ?_, a.nd⟩
  intro j r l hr hl
  have : y.s ≠ r := fun e => h4 (e ▸ List.mem_of_getElem? hr)
  rw [List.getElem?_set_ne this]
  exact a.row j r l hr hl
theorem SAt.setNums {h : Hv} {y : Lay} {S : Sta} (a : SAt h y S) (ns : List Int) : SAt (h.set y.N (.lst (ns.map .int))) y ⟨S.ls, S.hs, ns⟩ := by
  obtain ⟨h1, h2, h3, h4, h5, h6, h7⟩ := a.ne
  have l1 := a.lt y.N (by simp [Lay.refs])
  refine ⟨by rw [List.getElem?_set_ne (Ne.symm h2)]; exact a.s, by rw [List.getElem?_set_ne (Ne.symm h3)]; exact a.L, List.getElem?_set_self l1, a.len, ?_, a.nd⟩
  intro j r l hr hl
  have : y.N ≠ r := fun e => h6 (e ▸ List.mem_of_getElem? hr)
  rw [List.getElem?_set_ne this]
  exact a.row j r l hr hl
theorem SAt.addRow {h : Hv} {y : Lay} {S : Sta} (a : SAt h y S) {r : Nat} (hr : r ∉ y.refs) (l : Ld) (hrl : h[r]? = some (rowO l)) :
    SAt (h.set y.L (.lst ((y.rows ++ [r]).map .ref))) ⟨y.s, y.L, y.N, y.rows ++ [r]⟩ ⟨S.ls ++ [l], S.hs, S.nums⟩ := by
  obtain ⟨h1, h2, h3, h4, h5, h6, h7⟩ := a.ne
  have l1 := a.lt y.L (by simp [Lay.refs])
  simp only [Lay.refs, List.mem_cons, not_or] at hr
  refine ⟨by rw [List.getElem?_set_ne (Ne.symm h1)]; exact a.s, List.getElem?_set_self l1, by rw [List.getElem?_set_ne h3]; exact a.N, by simp [a.len], ?_, ?_⟩
  · intro j r' l' hr' hl'
    by_cases e : j < y.rows.length
    · rw [List.getElem?_append_left e] at hr'
      rw [List.getElem?_append_left (by have := a.len; omega)] at hl'
      have : y.L ≠ r' := fun e => h5 (e ▸ List.mem_of_getElem? hr')
      rw [List.getElem?_set_ne this]
      exact a.row j r' l' hr' hl'
    · have hj := (List.getElem?_eq_some_iff.1 hr').1
      simp only [List.length_append, List.length_singleton] at hj
      have ej : j = y.rows.length := by omega
      subst ej
      rw [List.getElem?_append_right (Nat.le_refl _), Nat.sub_self] at hr'
      rw [a.len, List.getElem?_append_right (Nat.le_refl _), Nat.sub_self] at hl'
      cases hr'
      cases hl'
      rw [List.getElem?_set_ne (Ne.symm hr.2.1)]
      exact hrl
  · have := a.nd
    simp only [Lay.refs] at this ⊢
    rw [show y.s :: y.L :: y.N :: (y.rows ++ [r]) = (y.s :: y.L :: y.N :: y.rows) ++ [r] by simp, List.nodup_append]
    refine ⟨this, by simp, ?_⟩
    intro x hx z hz e
    rw [List.mem_singleton.1 hz] at e
    subst e
    simp only [List.mem_cons] at hx
    rcases hx with e | e | e | e
    · exact hr.1 e
    · exact hr.2.1 e
    · exact hr.2.2.1 e
    · exact hr.2.2.2 e
/-- what a def leaves that answers None, where what it made is not seen -/
theorem gc_any (h h1 : Hv) (hl : h.length ≤ h1.length) : ∃ h2, gc h .non h1 = .ok .non h2 ∧ (∀ i, i < h.length → h2[i]? = h1[i]?) ∧ h.length ≤ h2.length := by
  unfold gc
  split
  · refine ⟨h1.take h.length, rfl, fun i hi => by rw [List.getElem?_take_of_lt hi], by simp; omega⟩
  · exact ⟨h1, rfl, fun _ _ => rfl, hl⟩
theorem gc_keep {h h1 : Hv} {d : D} {i : Nat} {o : Ob} (hi : i < h.length) (h2 : h1[i]? = some o) (ho : o.gr = false) (hne : h[i]? ≠ some o) : gc h d h1 = .ok d h1 := by
  unfold gc
  rw [if_neg]
  rintro ⟨_, e⟩
  rw [sameOrGr, List.all_eq_true] at e
  have := e i (List.mem_range.2 hi)
  rw [h2] at this
  simp only [ho, Bool.or_false, decide_eq_true_eq] at this
  exact hne this.symm

theorem gc_list {h h1 : Hv} {s : Nat} {ds : List D} (e : h1[s]? = some (.lst ds)) (hg : D.grs ds = false) : gc h (.ref s) h1 = .ok (.ref s) h1 := by
  unfold gc
  split
  · simp [D.gr, e, hg]
  · rfl
theorem begun_loop {C : Or} {env : Env} (he : 1 < env.length) (h : Hv) : ∀ (ls : List Ld) (objs : List Ob), objs.length + ls.length ≤ 1000 →
    lcLoop C env (nmT 1) (conF (.bl true)) (bltF bList [varF 1]) [] h.length (ls.map ldD) (h ++ .lst ((List.range' (h.length + 1) objs.length).map .ref) :: objs) =
      .ok () (h ++ .lst ((List.range' (h.length + 1) (objs.length + ls.length)).map .ref) :: (objs ++ ls.map rowO))
  | [], objs, _ => by simp [lcLoop]
  | l :: ls, objs, hl => by
    simp only [List.length_cons] at hl
    have ih := begun_loop (C := C) he h ls (objs ++ [rowO l]) (by simp; omega)
    rw [List.map_cons, lcLoop, if_pos (g_nil _), u_nm, if_pos he]
    have e1 : bltF bList [varF 1] C (env.set 1 (some (ldD l))) (h ++ .lst ((List.range' (h.length + 1) objs.length).map .ref) :: objs) = .ok (.ref (h.length + 1 + objs.length)) (h ++ .lst ((List.range' (h.length + 1) objs.length).map .ref) :: (objs ++ [rowO l])) := by
      have : (env.set 1 (some (ldD l)))[1]? = some (some (ldD l)) := List.getElem?_set_self he
      simp only [u_blt, u_list, u_list0, u_var, this, bind_ok]
      simp only [ldD, u_listt]
      simp [rowO]
      omega
    simp only [u_con, bind_ok, e1]
    have e2 : (h ++ Ob.lst ((List.range' (h.length + 1) objs.length).map .ref) :: (objs ++ [rowO l]))[h.length]? = some (.lst ((List.range' (h.length + 1) objs.length).map .ref)) := by simp
    simp only [e2, List.length_map, List.length_range']
    rw [if_pos (by unfold szl; omega), g_set]
    have e3 : (List.range' (h.length + 1) objs.length).map D.ref ++ [.ref (h.length + 1 + objs.length)] = (List.range' (h.length + 1) (objs ++ [rowO l]).length).map D.ref := by
      rw [List.length_append, List.length_singleton, List.range'_concat, List.map_append]
      simp
    rw [e3, ih]
    simp [Nat.add_comm 1, Nat.add_assoc]
theorem _law_begun_ok (k : Nat) (P K B x y : Int) (hold : List Rat) (ls : List Ld) (ds : List D) (h : Hv) (hn : ls.length ≤ 900) :
    ∃ (g : Hv) (ly : Lay), callK T (k + 1) "_law_begun" [bookD (trD P K B hold x y) ls ds] h = .ok (.ref ly.s) (h ++ g) ∧ SAt (h ++ g) ly ⟨ls, hold, []⟩ ∧ ∀ r ∈ ly.refs, h.length ≤ r := by
  let N := h.length + 1 + ls.length
  let g : Hv := .lst ((List.range' (h.length + 1) ls.length).map .ref) :: (ls.map rowO ++ [.lst [], .lst [.ref h.length, shD hold, .ref N]])
  let ly : Lay := ⟨N + 1, h.length, N, List.range' (h.length + 1) ls.length⟩
  have eN : (h ++ g)[N]? = some (.lst []) := by
    show (h ++ g)[h.length + 1 + ls.length]? = _
    rw [List.getElem?_append_right (by omega), show h.length + 1 + ls.length - h.length = ls.length + 1 by omega]
    show (ls.map rowO ++ _)[ls.length]? = _
    rw [List.getElem?_append_right (by simp)]
    simp
  have eS : (h ++ g)[N + 1]? = some (.lst [.ref h.length, shD hold, .ref N]) := by
    show (h ++ g)[h.length + 1 + ls.length + 1]? = _
    rw [List.getElem?_append_right (by omega), show h.length + 1 + ls.length + 1 - h.length = (ls.length + 1) + 1 by omega]
    show (ls.map rowO ++ _)[ls.length + 1]? = _
    rw [List.getElem?_append_right (by simp)]
    simp
  refine ⟨g, ly, ?_, ⟨eS, by show (h ++ _ :: _)[h.length]? = _; simp [ly], eN, by simp [ly], ?_, ?_⟩, ?_⟩
  · rw [callK_eq t__law_begun]
    refine (run_rt rfl ?_).trans (gc_list eS (by simp [D.grs, D.gr]))
    have b1 : ∀ h, opIx (bookD (trD P K B hold x y) ls ds) (.int 1) h = .ok (lsD ls) h := fun h => by simp [bookD]
    have b0 : ∀ h, opIx (bookD (trD P K B hold x y) ls ds) (.int 0) h = .ok (trD P K B hold x y) h := fun h => by simp [bookD]
    have t3 : ∀ h, opIx (trD P K B hold x y) (.int 3) h = .ok (shD hold) h := fun h => by simp [trD]
    have lp := begun_loop (C := callK T k) (env := [some (bookD (trD P K B hold x y) ls ds), none]) (by simp) h ls [] (by simp; omega)
    have e1 : lcF (itE (binF opIx (varF 0) (conF (.int 1)))) (nmT 1) [1] (conF (.bl true)) (bltF bList [(varF 1)]) (callK T k) [some (bookD (trD P K B hold x y) ls ds), none] h = .ok (.ref h.length) (h ++ .lst ((List.range' (h.length + 1) ls.length).map .ref) :: ls.map rowO) := by
      have hit : itE (binF opIx (varF 0) (conF (.int 1))) (callK T k) [some (bookD (trD P K B hold x y) ls ds), none] h = .ok (ls.map ldD, []) h := itE_t (by simp [u_var, b1, lsD])
      rw [lcF, hit]
      simp only [bind_ok]
      have w : wipeD [some (bookD (trD P K B hold x y) ls ds), none] [1] = [some (bookD (trD P K B hold x y) ls ds), none] := rfl
      simp only [List.length_nil, List.range'_zero, List.map_nil, Nat.zero_add, List.nil_append] at lp
      rw [w, lp]
      rfl
    have tt : ∀ h, bTuple [shD hold] h = .ok (shD hold) h := fun h => rfl
    simp only [R__law_begun, F__law_begun, u_seq, u_ret, List.map_cons, List.map_nil, List.replicate, List.cons_append, List.nil_append]
    rw [u_lst]
    simp only [u_list, u_list0, e1, bind_ok, u_blt, u_bin, u_var, List.getElem?_cons_zero, b0, t3, u_con, tt, u_lst, List.length_nil, List.length_cons, Nat.zero_le, if_true, Nat.reduceAdd, Nat.reduceLeDiff, thenS_ok, nxt_rt]
    simp [g, ly, N]
    omega
  · intro i r l hr hl
    have hi := (List.getElem?_eq_some_iff.1 hl).1
    have er : r = h.length + 1 + i := by
      have : (List.range' (h.length + 1) ls.length)[i]? = some r := hr
      rw [List.getElem?_range' hi] at this
      have := Option.some.inj this
      omega
    subst er
    rw [List.getElem?_append_right (by omega), show h.length + 1 + i - h.length = i + 1 by omega]
    show (ls.map rowO ++ _)[i]? = _
    have hl' : ls[i]? = some l := hl
    rw [List.getElem?_append_left (by simpa using hi), List.getElem?_map, hl']
    rfl
  · show List.Nodup (α := Nat) ((N + 1) :: h.length :: N :: List.range' (h.length + 1) ls.length)
    simp only [List.nodup_cons, List.mem_cons, List.mem_range'_1, not_or, N]
    refine ⟨⟨by omega, by omega, by omega⟩, ⟨by omega, by omega⟩, by omega, List.nodup_range' ..⟩
  · intro r hr
    have : r ∈ (((N + 1) :: h.length :: N :: List.range' (h.length + 1) ls.length) : List Nat) := hr
    simp only [List.mem_cons, List.mem_range'_1, N] at this
    omega

/-- a loop that adds an amount at each turn to a list of its own -/
theorem for_acc {α : Type} {C : Or} {tg : TF} {body : SF} {h : Hv} (enc : α → D) (f : α → Rat) (E : Env → Prop) : ∀ (L : List α) (acc : List Rat) (env : Env),
    (∀ x ∈ L, ∀ acc env, acc.length ≤ 1000 → E env → ∃ env1, tg (enc x) env (h ++ [.lst (acc.map am)]) = some env1 ∧ ∃ env2, body C env1 (h ++ [.lst (acc.map am)]) = .nx env2 (h ++ [.lst ((acc ++ [f x]).map am)]) ∧ E env2) →
    E env → acc.length + L.length ≤ 1000 → ∃ env', forL C tg body [] (L.map enc) env (h ++ [.lst (acc.map am)]) = .nx env' (h ++ [.lst ((acc ++ L.map f).map am)]) ∧ E env'
  | [], acc, env, _, he, _ => ⟨env, by simp [forL], he⟩
  | x :: xs, acc, env, hx, he, hl => by
    simp only [List.length_cons] at hl
    obtain ⟨env1, e1, env2, e2, he2⟩ := hx x (by simp) acc env (by omega) he
    obtain ⟨env3, e3, he3⟩ := for_acc enc f E xs (acc ++ [f x]) env2 (fun y hy => hx y (by simp [hy])) he2 (by simp; omega)
    refine ⟨env3, ?_, he3⟩
    rw [List.map_cons, forL, if_pos (g_nil _)]
    simp only [e1, e2, e3]
    simp
theorem app_am {h : Hv} {acc : List Rat} {q : Rat} (hl : acc.length ≤ 1000) : mAppend (.ref h.length) [am q] (h ++ [.lst (acc.map am)]) = .ok .non (h ++ [.lst ((acc ++ [q]).map am)]) := by
  simp only [mAppend, last_at h (.lst (acc.map am)), List.length_map]
  rw [if_pos (by unfold szl; omega), last_set]
  simp
theorem isl_last (h : Hv) (ds : List D) : isLst (.ref h.length) (h ++ [.lst ds]) = true := by simp [isLst]
theorem fit_one : Fit 1 := (show Sh 1 1 from ⟨Nat.one_dvd _, by decide, by decide⟩).fit (by decide) (Nat.lt_of_lt_of_le (show 1 < 2 ^ 1 by decide) (Nat.pow_le_pow_right (by decide) (by decide)))
theorem _law_borne_ok (k : Nat) (M W : Nat) (ss os : List Rat) (p : Rat) (h : Hv) (hM : 0 < M) (hW : 0 < W) (hMW : M * W < 2 ^ 4400) (hs : ∀ q ∈ ss, Sc M q) (ho : ∀ q ∈ os, Sc M q) (hp : Sh W p) (hn : ss.length ≤ 900) :
    callK T (k + 5) "_law_borne" [shD ss, am p, shD os] h = .ok (shD (borne p os ss)) h := by
  have hM1 : M < 2 ^ 4400 := Nat.lt_of_le_of_lt (Nat.le_mul_of_pos_right M hW) hMW
  have hW1 : W < 2 ^ 4400 := Nat.lt_of_le_of_lt (Nat.le_mul_of_pos_left W hM) hMW
  have fp := hp.fit hW hW1
  have fk := (hp.compl hW).fit hW hW1
  rw [callK_eq t__law_borne]
  obtain ⟨env', e, z4, z5, rfl⟩ := for_acc (C := callK T (k + 4)) (tg := tupT [(nmT 4), (nmT 5)]) (body := (seqS (expS (methF mAppend (varF 3) [(callF "_law_plus" [(callF "_law_times" [(varF 4), (callF "_law_less" [(tupF [(conF (.int 1)), (conF (.int 1))]), (varF 1)])]), (callF "_law_times" [(varF 5), (varF 1)])])])) nxS)) (h := h)
    (fun x : Rat × Rat => .tup [am x.1, am x.2]) (fun x => x.1 * (1 - p) + x.2 * p) (fun env => ∃ z4 z5, env = [some (shD ss), some (am p), some (shD os), some (.ref h.length), z4, z5]) (ss.zip os) [] [some (shD ss), some (am p), some (shD os), some (.ref h.length), none, none]
    (by
      rintro x hx acc env hl ⟨z4, z5, rfl⟩
      have m1 := hs _ (List.of_mem_zip hx).1
      have m2 := ho _ (List.of_mem_zip hx).2
      have a0 : callK T (k + 4) "_law_less" [.tup [.int 1, .int 1], am p] (h ++ [.lst (acc.map am)]) = .ok (am (1 - p)) (h ++ [.lst (acc.map am)]) := _law_less_ok k 1 p _ fit_one fp
      have a1 : callK T (k + 4) "_law_times" [am x.1, am (1 - p)] (h ++ [.lst (acc.map am)]) = .ok (am (x.1 * (1 - p))) (h ++ [.lst (acc.map am)]) := _law_times_ok (k + 1) _ _ _ (m1.fit hM hM1) fk
      have a2 : callK T (k + 4) "_law_times" [am x.2, am p] (h ++ [.lst (acc.map am)]) = .ok (am (x.2 * p)) (h ++ [.lst (acc.map am)]) := _law_times_ok (k + 1) _ _ _ (m2.fit hM hM1) fp
      have a3 : callK T (k + 4) "_law_plus" [am (x.1 * (1 - p)), am (x.2 * p)] (h ++ [.lst (acc.map am)]) = .ok (am (x.1 * (1 - p) + x.2 * p)) (h ++ [.lst (acc.map am)]) := _law_plus_ok (k + 1) _ _ _ ((m1.mul (hp.compl hW)).fit (Nat.mul_pos hM hW) hMW) ((m2.mul hp).fit (Nat.mul_pos hM hW) hMW)
      refine ⟨_, rfl, [some (shD ss), some (am p), some (shD os), some (.ref h.length), some (am x.1), some (am x.2)], ?_, _, _, rfl⟩
      have ap := app_am (h := h) (acc := acc) (q := x.1 * (1 - p) + x.2 * p) hl
      have il := isl_last h (acc.map am)
      simp only [u_seq, u_exp, methF, u_var, List.set_cons_succ, List.set_cons_zero, List.getElem?_cons_succ, List.getElem?_cons_zero, bind_ok, il, if_true, u_list, u_list0, u_call, u_tup, u_con, List.length_cons, List.length_nil, Nat.reduceAdd, Nat.reduceLeDiff, a0, a1, a2, a3, ap, thenS_ok, nxt_nx, u_nx])
    ⟨_, _, rfl⟩ (by simp; omega)
  have hit : itZ (varF 0) (varF 2) (callK T (k + 4)) [some (shD ss), some (am p), some (shD os), some (.ref h.length), none, none] (h ++ [.lst []]) = .ok ((ss.zip os).map fun p => .tup [am p.1, am p.2], []) (h ++ [.lst []]) :=
    itZ_tt (by simp [u_var, shD]) (by simp [u_var, shD])
  refine (run_rt rfl ?_).trans (gc_app (g := [.lst ((borne p os ss).map am)]) (shD_gr _))
  have et := u_tuplel (last_at h (.lst ((borne p os ss).map am)))
  simp only [List.map_nil, List.nil_append] at e
  have e' : forL (callK T (k + 4)) (tupT [(nmT 4), (nmT 5)]) (seqS (expS (methF mAppend (varF 3) [(callF "_law_plus" [(callF "_law_times" [(varF 4), (callF "_law_less" [(tupF [(conF (.int 1)), (conF (.int 1))]), (varF 1)])]), (callF "_law_times" [(varF 5), (varF 1)])])])) nxS) [] ((ss.zip os).map fun p => .tup [am p.1, am p.2]) [some (shD ss), some (am p), some (shD os), some (.ref h.length), none, none] (h ++ [.lst []]) = .nx [some (shD ss), some (am p), some (shD os), some (.ref h.length), z4, z5] (h ++ [.lst ((borne p os ss).map am)]) := e
  simp [-u_for, u_var, R__law_borne, F__law_borne, List.replicate]
  rw [u_for, hit]
  simp only [thenI_ok, e']
  simp [u_var, et]
  rfl
theorem _law_sold_ok (k : Nat) (M N : Nat) (ss : List Rat) (p q : Nat) (part : Rat) (h : Hv) (hp : p < ss.length) (hq : q < ss.length) (hpq : p ≠ q) (hM : 0 < M) (hN : 0 < N) (hMN : M * N < 2 ^ 4400) (hs : ∀ x ∈ ss, Sc M x) (hpt : Sh N part) :
    callK T (k + 5) "_law_sold" [shD ss, slD p q part] h = .ok (shD (soS p q part ss)) h := by
  rw [callK_eq t__law_sold]
  have hM1 : M < 2 ^ 4400 := Nat.lt_of_le_of_lt (Nat.le_mul_of_pos_right M hN) hMN
  have hN1 : N < 2 ^ 4400 := Nat.lt_of_le_of_lt (Nat.le_mul_of_pos_left N hM) hMN
  have sp := hs _ (getD_mem hp)
  have sq := hs _ (getD_mem hq)
  have sm := sp.mul hpt
  have gp : ss.getD p 0 = ss[p] := by rw [List.getD_eq_getElem?_getD, List.getElem?_eq_getElem hp]; rfl
  have gq : ss.getD q 0 = ss[q] := by rw [List.getD_eq_getElem?_getD, List.getElem?_eq_getElem hq]; rfl
  have fm := sm.fit (Nat.mul_pos hM hN) hMN
  have s1 : ∀ h, opIx (slD p q part) (.int 1) h = .ok (.int p) h := fun h => by simp [slD]
  have s2 : ∀ h, opIx (slD p q part) (.int 2) h = .ok (.int q) h := fun h => by simp [slD]
  have s3 : ∀ h, opIx (slD p q part) (.int 3) h = .ok (am part) h := fun h => by simp [slD]
  have c1 : callK T (k + 4) "_law_times" [am (ss.getD p 0), am part] (h ++ [.lst (ss.map am)]) = .ok (am (ss.getD p 0 * part)) (h ++ [.lst (ss.map am)]) := _law_times_ok (k + 1) _ _ _ (sp.fit hM hM1) (hpt.fit hN hN1)
  have c2 := _law_less_ok k (ss.getD p 0) (ss.getD p 0 * part) (h ++ [.lst (ss.map am)]) (sp.fit hM hM1) fm
  have c3 : callK T (k + 4) "_law_plus" [am (ss.getD q 0), am (ss.getD p 0 * part)] (h ++ [.lst ((ss.set p (ss.getD p 0 - ss.getD p 0 * part)).map am)]) = .ok (am (ss.getD q 0 + ss.getD p 0 * part)) (h ++ [.lst ((ss.set p (ss.getD p 0 - ss.getD p 0 * part)).map am)]) := _law_plus_ok (k + 1) _ _ _ (sq.fit hM hM1) fm
  have x1 : opIx (.ref h.length) (.int p) (h ++ [.lst (ss.map am)]) = .ok (am (ss.getD p 0)) (h ++ [.lst (ss.map am)]) := by
    rw [ix_ref _ _ _ _ (last_at h _), at_nat, List.getElem?_map, List.getElem?_eq_getElem hp, gp]; rfl
  have x2 : opIx (.ref h.length) (.int q) (h ++ [.lst ((ss.set p (ss.getD p 0 - ss.getD p 0 * part)).map am)]) = .ok (am (ss.getD q 0)) (h ++ [.lst ((ss.set p (ss.getD p 0 - ss.getD p 0 * part)).map am)]) := by
    rw [ix_ref _ _ _ _ (last_at h _), at_nat, List.getElem?_map, List.getElem?_set_ne hpq, List.getElem?_eq_getElem hq, gq]; rfl
  have t1 : setL (.ref h.length) (.int p) (am (ss.getD p 0 - ss.getD p 0 * part)) (h ++ [.lst (ss.map am)]) = some (h ++ [.lst ((ss.set p (ss.getD p 0 - ss.getD p 0 * part)).map am)]) := by
    rw [setL_ok (last_at h _) (by simpa using hp), last_set, ← List.map_set]
  have t2 : setL (.ref h.length) (.int q) (am (ss.getD q 0 + ss.getD p 0 * part)) (h ++ [.lst ((ss.set p (ss.getD p 0 - ss.getD p 0 * part)).map am)]) = some (h ++ [.lst ((soS p q part ss).map am)]) := by
    rw [setL_ok (last_at h _) (by simpa using hq), last_set, soS, ← List.map_set]
  have et := u_tuplel (last_at h (.lst ((soS p q part ss).map am)))
  have bl : ∀ h, bList [shD ss] h = .ok (.ref h.length) (h ++ [.lst (ss.map am)]) := fun h => rfl
  refine (run_rt rfl ?_).trans (gc_app (g := [.lst ((soS p q part ss).map am)]) (shD_gr _))
  simp [-List.getD_eq_getElem?_getD, -List.map_set, u_var, R__law_sold, F__law_sold, s1, s2, s3, c1, bl, x1, c2, t1, x2, c3, t2, et, List.replicate]
  rfl
theorem ix_row {h : Hv} {r : Nat} {l : Ld} (hr : h[r]? = some (rowO l)) : opIx (.ref r) (.int 0) h = .ok (.int l.k) h ∧ opIx (.ref r) (.int 1) h = .ok (.int l.n) h ∧ opIx (.ref r) (.int 2) h = .ok (shD l.sh) h := by
  refine ⟨?_, ?_, ?_⟩ <;> rw [ix_ref _ _ _ _ hr] <;> simp
theorem row_old {h : Hv} {g : Hv} {r : Nat} {o : Ob} (hr : h[r]? = some o) : (h ++ g)[r]? = some o := by
  rw [List.getElem?_append_left (List.getElem?_eq_some_iff.1 hr).1, hr]
theorem _law_pooled_ok (k : Nat) (la lb : Ld) (r1 r2 : Nat) (M : Nat) (h : Hv) (hr1 : h[r1]? = some (rowO la)) (hr2 : h[r2]? = some (rowO lb)) (hM : 0 < M) (hM1 : M < 2 ^ 4000)
    (ha : ∀ q ∈ la.sh, Sc M q) (hb : ∀ q ∈ lb.sh, Sc M q) (hl : la.sh.length ≤ 900) (na : 1 ≤ la.n ∧ la.n < 2 ^ 390) (nb : 1 ≤ lb.n ∧ lb.n < 2 ^ 390) :
    callK T (k + 4) "_law_pooled" [.ref r1, .ref r2] h = .ok (shD (plS la.n lb.n la.sh lb.sh)) h := by
  have hM2 : M < 2 ^ 4400 := Nat.lt_of_lt_of_le hM1 (Nat.pow_le_pow_right (by decide) (by decide))
  obtain ⟨w, ew⟩ := Int.eq_ofNat_of_zero_le (a := la.n + lb.n) (by omega)
  have w0 : 0 < w := by omega
  have w1 : w < 2 ^ 400 := by omega
  rw [callK_eq t__law_pooled]
  have big : ∀ {n m : Nat}, n < 2 ^ m → m ≤ 4400 → n < 2 ^ 4400 := fun h hm => Nat.lt_of_lt_of_le h (Nat.pow_le_pow_right (by decide) hm)
  have fi : ∀ {n : Int}, 1 ≤ n ∧ n < 2 ^ 390 → Fit (n : Rat) := fun {n} hn => ⟨Nat.lt_of_lt_of_le (show (n : Rat).num.natAbs < 2 ^ 390 by show n.natAbs < _; omega) (Nat.pow_le_pow_right (by decide) (by decide)), big (m := 1) (by show 1 < 2 ^ 1; decide) (by decide), by show 1 < bigM; exact Nat.lt_of_lt_of_le (show 1 < 2 ^ 1 by decide) (Nat.pow_le_pow_right (by decide) (by decide))⟩
  obtain ⟨o1, o2⟩ := one_num w w0
  have fw : Fit (mkRat 1 w) := ⟨by rw [o1]; exact Nat.lt_of_lt_of_le (show 1 < 2 ^ 1 by decide) (Nat.pow_le_pow_right (by decide) (by decide)), by rw [o2]; exact big w1 (by decide), by rw [o2]; exact Nat.lt_of_lt_of_le w1 (Nat.pow_le_pow_right (by decide) (by decide))⟩
  obtain ⟨env', e, z3, z4, z5, rfl⟩ := for_acc (C := callK T (k + 3)) (tg := tupT [(nmT 3), (nmT 4)]) (body := (seqS (asgS (nmT 5) (callF "_law_plus" [(callF "_law_times" [(tupF [(binF opIx (varF 0) (conF (.int 1))), (conF (.int 1))]), (varF 3)]), (callF "_law_times" [(tupF [(binF opIx (varF 1) (conF (.int 1))), (conF (.int 1))]), (varF 4)])])) (seqS (expS (methF mAppend (varF 2) [(callF "_law_times" [(varF 5), (callF "_law_made" [(conF (.int 1)), (binF opAdd (binF opIx (varF 0) (conF (.int 1))) (binF opIx (varF 1) (conF (.int 1))))])])])) nxS))) (h := h)
    (fun x : Rat × Rat => .tup [am x.1, am x.2]) (fun x => ((la.n : Rat) * x.1 + (lb.n : Rat) * x.2) * mkRat 1 w) (fun env => ∃ z3 z4 z5, env = [some (.ref r1), some (.ref r2), some (.ref h.length), z3, z4, z5]) (la.sh.zip lb.sh) [] [some (.ref r1), some (.ref r2), some (.ref h.length), none, none, none]
    (by
      rintro x hx acc env hl ⟨z3, z4, z5, rfl⟩
      have m1 := ha _ (List.of_mem_zip hx).1
      have m2 := hb _ (List.of_mem_zip hx).2
      obtain ⟨f1, d1, p1, q1⟩ := so_fit (n := la.n) m1 hM hM2 (by omega) (by omega)
      obtain ⟨f2, d2, p2, q2⟩ := so_fit (n := lb.n) m2 hM hM2 (by omega) (by omega)
      have db := den_add_dvd hM d1 d2
      have i1 := (ix_row (row_old (g := [.lst (acc.map am)]) hr1)).2.1
      have i2 := (ix_row (row_old (g := [.lst (acc.map am)]) hr2)).2.1
      have c1 : callK T (k + 3) "_law_times" [.tup [.int la.n, .int 1], am x.1] (h ++ [.lst (acc.map am)]) = .ok (am ((la.n : Rat) * x.1)) (h ++ [.lst (acc.map am)]) := _law_times_ok k (la.n : Rat) x.1 _ (fi na) (m1.fit hM hM2)
      have c2 : callK T (k + 3) "_law_times" [.tup [.int lb.n, .int 1], am x.2] (h ++ [.lst (acc.map am)]) = .ok (am ((lb.n : Rat) * x.2)) (h ++ [.lst (acc.map am)]) := _law_times_ok k (lb.n : Rat) x.2 _ (fi nb) (m2.fit hM hM2)
      have c3 := _law_plus_ok k _ _ (h ++ [.lst (acc.map am)]) f1 f2
      have c4 : callK T (k + 3) "_law_made" [.int 1, .int w] (h ++ [.lst (acc.map am)]) = .ok (am (mkRat 1 w)) (h ++ [.lst (acc.map am)]) := _law_made_ok (k + 1) 1 w _ w0 (bigM_le w1 (by decide))
      have fq : Fit ((la.n : Rat) * x.1 + (lb.n : Rat) * x.2) := fit_le (n := la.n.toNat * 2 ^ 64 + lb.n.toNat * 2 ^ 64) db (by grind) (by rw [Rat.natCast_add]; grind) hM hM2 (big (m := 460) (by omega) (by decide))
      have c5 := _law_times_ok k _ _ (h ++ [.lst (acc.map am)]) fq fw
      refine ⟨_, rfl, [some (.ref r1), some (.ref r2), some (.ref h.length), some (am x.1), some (am x.2), some (am ((la.n : Rat) * x.1 + (lb.n : Rat) * x.2))], ?_, _, _, _, rfl⟩
      have ap := app_am (h := h) (acc := acc) (q := ((la.n : Rat) * x.1 + (lb.n : Rat) * x.2) * mkRat 1 w) hl
      have il := isl_last h (acc.map am)
      simp only [u_seq, u_asg, u_nm, u_exp, methF, u_var, List.set_cons_succ, List.set_cons_zero, List.getElem?_cons_succ, List.getElem?_cons_zero, bind_ok, il, if_true, u_list, u_list0, u_call, u_bin, u_tup, u_con, List.length_cons, List.length_nil, Nat.reduceAdd, Nat.reduceLeDiff, Nat.reduceLT, om_some, i1, i2, c1, c2, c3, u_add, ew, c4, c5, ap, thenS_ok, nxt_nx, u_nx])
    ⟨_, _, _, rfl⟩ (by simp; omega)
  have hit : itZ (binF opIx (varF 0) (conF (.int 2))) (binF opIx (varF 1) (conF (.int 2))) (callK T (k + 3)) [some (.ref r1), some (.ref r2), some (.ref h.length), none, none, none] (h ++ [.lst []]) = .ok ((la.sh.zip lb.sh).map fun p => .tup [am p.1, am p.2], []) (h ++ [.lst []]) := by
    have i1 := (ix_row (row_old (g := [.lst []]) hr1)).2.2
    have i2 := (ix_row (row_old (g := [.lst []]) hr2)).2.2
    exact itZ_tt (by simp only [u_bin, u_var, List.getElem?_cons_zero, bind_ok, u_con, i1]; rfl) (by simp only [u_bin, u_var, List.getElem?_cons_succ, List.getElem?_cons_zero, bind_ok, u_con, i2]; rfl)
  refine (run_rt rfl ?_).trans (gc_app (g := [.lst ((plS la.n lb.n la.sh lb.sh).map am)]) (shD_gr _))
  have et := u_tuplel (last_at h (.lst ((plS la.n lb.n la.sh lb.sh).map am)))
  simp only [List.map_nil, List.nil_append] at e
  have ep : (la.sh.zip lb.sh).map (fun x => ((la.n : Rat) * x.1 + (lb.n : Rat) * x.2) * mkRat 1 w) = plS la.n lb.n la.sh lb.sh := by
    rw [plS, ew]; rfl
  rw [ep] at e
  simp [-u_for, u_var, R__law_pooled, F__law_pooled, List.replicate]
  rw [u_for, hit]
  simp only [thenI_ok, e]
  simp [u_var, et]
  rfl
theorem _law_cost_ok (k : Nat) (P K t M : Nat) (B x y : Int) (hold : List Rat) (S : Sta) (ly : Lay) (h : Hv) (g : Good P K t M S) (ht : t ≤ 16) (hB : 1 ≤ B ∧ B ≤ 20) (at0' : SAt h ly S) {a : Nat} {n : Int} {ws : List Int} {w : Int} (c : Can P K S (.throw a n ws w)) :
    callK T (k + 3) "_law_cost" [trD P K B hold x y, .ref ly.L, thD a n (ws ++ [w])] h = .ok (am (cost B S.ls a n ws w)) h := by
  obtain ⟨W, eW, W0, W1, ec, hp⟩ := throw_facts g ht hB c
  obtain ⟨ha, n1, n2, lw, hv, hw⟩ := c
  have gl := g.len
  rw [callK_eq t__law_cost, ec]
  have b64 : ∀ {v : Int}, 1 ≤ v ∧ v ≤ 99 → v.natAbs < big64 := fun {v} hv => by unfold big64; omega
  have wx : ∀ l ∈ S.ls, (ws ++ [w])[l.k]? = some (ws.getD l.k 0) ∧ (ws.getD l.k 0).natAbs < big64 := by
    intro l hl
    have h1 : l.k < ws.length := by rw [lw]; exact g.kd l hl
    refine ⟨by rw [List.getElem?_append_left h1, List.getD_eq_getElem?_getD, List.getElem?_eq_getElem h1]; rfl, ?_⟩
    rw [List.getD_eq_getElem?_getD, List.getElem?_eq_getElem h1]
    exact b64 (hv _ (List.getElem_mem h1))
  have s1 : ∀ h, opIx (thD a n (ws ++ [w])) (.int 1) h = .ok (.int a) h := fun h => by simp [thD]
  have s2 : ∀ h, opIx (thD a n (ws ++ [w])) (.int 2) h = .ok (.int n) h := fun h => by simp [thD]
  have s3 : ∀ h, opIx (thD a n (ws ++ [w])) (.int 3) h = .ok (wsD (ws ++ [w])) h := fun h => by simp [thD]
  have t2 : ∀ h, opIx (trD P K B hold x y) (.int 2) h = .ok (.int B) h := fun h => by simp [trD]
  have hL := at0'.L
  have e2 := lc_all (C := callK T (k + 2)) (env := [some (trD P K B hold x y), some (.ref ly.L), some (thD a n (ws ++ [w])), some (wsD (ws ++ [w])), none, none, none, none]) (it := itE (varF 1)) (tg := tupT [(nmT 5), (nmT 6), (nmT 7)]) (own := [5, 6, 7]) (elt := binF opMul (varF 6) (binF opIx (varF 3) (varF 5)))
    (gs := [(ly.L, ly.rows.map .ref)]) (h := h) (h1 := h) (ly.rows.zip S.ls) (fun z => .ref z.1) (fun z => .int (z.2.n * ws.getD z.2.k 0)) (fun z => [some (trD P K B hold x y), some (.ref ly.L), some (thD a n (ws ++ [w])), some (wsD (ws ++ [w])), none, some (.int z.2.k), some (.int z.2.n), some (shD z.2.sh)])
    (by
      have : (ly.rows.zip S.ls).map (fun z => D.ref z.1) = ly.rows.map .ref := by
        rw [show (fun z : Nat × Ld => D.ref z.1) = (D.ref ∘ Prod.fst) from rfl, ← List.map_map, List.map_fst_zip (by rw [at0'.len]; exact Nat.le_refl _)]
      rw [this]
      exact itE_l (by simp [u_var]) hL)
    (by intro acc; simp only [guardsOk, List.all_cons, List.all_nil, Bool.and_true, row_old hL]; simp)
    (by
      rintro ⟨r, l⟩ hz acc
      obtain ⟨i, hi⟩ := List.getElem?_of_mem hz
      rw [List.getElem?_zip_eq_some] at hi
      have hr := row_old (g := [.lst acc]) (at0'.row i r l hi.1 hi.2)
      simp [wipeD, u_tupTR, hr, rowO])
    (by
      rintro ⟨r, l⟩ hz acc
      obtain ⟨w1, w2⟩ := wx l (List.of_mem_zip hz).2
      simp only [u_bin, u_var, List.getElem?_cons_succ, List.getElem?_cons_zero, bind_ok, ix_ws w1, mul_t w2])
    (by simp; omega)
  have ez : (ly.rows.zip S.ls).map (fun z => D.int (z.2.n * ws.getD z.2.k 0)) = (S.ls.map fun l => l.n * ws.getD l.k 0).map .int := by
    rw [show (fun z : Nat × Ld => D.int (z.2.n * ws.getD z.2.k 0)) = ((fun l : Ld => D.int (l.n * ws.getD l.k 0)) ∘ Prod.snd) from rfl, ← List.map_map, List.map_snd_zip (by rw [at0'.len]; exact Nat.le_refl _), List.map_map]
    rfl
  rw [ez] at e2
  have es := u_sum (p := h.length) (ns := S.ls.map fun l => l.n * ws.getD l.k 0) (h := h ++ [.lst ((S.ls.map fun l => l.n * ws.getD l.k 0).map .int)]) (last_at _ _)
  generalize hgb : ([.lst ((S.ls.map fun l => l.n * ws.getD l.k 0).map .int)] : Hv) = gb at *
  have ew : (S.ls.map fun l => l.n * ws.getD l.k 0).sum + B * w = W := eW
  generalize (S.ls.map fun l => l.n * ws.getD l.k 0).sum = sm at *
  obtain ⟨r, hr, _, hrow⟩ := at0'.rowAt ha
  have x1 : opIx (.ref ly.L) (.int a) (h ++ gb) = .ok (.ref r) (h ++ gb) := by
    rw [ix_ref _ _ _ _ (row_old hL), at_nat, List.getElem?_map, hr]; rfl
  have x2 := (ix_row (row_old (g := gb) hrow)).1
  obtain ⟨w1, w2⟩ := wx _ (at_mem ha)
  have em : callK T (k + 2) "_law_made" [.int (n * ws.getD (at_ S.ls a).k 0), .int W] (h ++ gb) = .ok (am (mkRat (n * ws.getD (at_ S.ls a).k 0) W)) (h ++ gb) := _law_made_ok k _ W _ W0 (bigM_le (k := 160) (by omega) (by decide))
  refine (run_rt rfl ?_).trans (gc_app (g := gb) rfl)
  simp only [R__law_cost, F__law_cost, u_seq, u_asg, List.map_cons, List.map_nil, List.replicate, List.cons_append, List.nil_append, Nat.reduceSub]
  simp only [u_seq, u_asg, u_var, List.getElem?_cons_succ, List.getElem?_cons_zero, bind_ok, u_con, s3, thenS_ok, u_nm, List.length_cons, List.length_nil, Nat.reduceAdd, Nat.reduceLT, if_true, om_some, List.set_cons_succ, List.set_cons_zero, nxt_nx, u_bin, u_blt, u_list, u_list0, e2, es, t2, u_un1, u_neg, ix_wl, mul_t (b64 hw), u_add, ew, u_ret, u_call, s2, s1, x1, x2, ix_ws w1, mul_t w2, em, nxt_rt]

theorem part_set (ls : List Ld) (upd : Ld → Ld) (j : Nat) (l : Ld) (hl : ls[j]? = some l) : ((ls.take j).map upd ++ ls.drop j).set j (upd l) = (ls.take (j + 1)).map upd ++ ls.drop (j + 1) := by
  obtain ⟨hj, rfl⟩ := List.getElem?_eq_some_iff.1 hl
  rw [List.set_append_right _ _ (by simp; omega), List.length_map, List.length_take, Nat.min_eq_left (by omega), Nat.sub_self, List.drop_eq_getElem_cons hj, List.set_cons_zero, List.take_succ_eq_append_getElem hj, List.map_append]
  simp
theorem part_get (ls : List Ld) (upd : Ld → Ld) (j : Nat) (hj : j < ls.length) : ((ls.take j).map upd ++ ls.drop j)[j]? = ls[j]? := by
  rw [List.getElem?_append_right (by simp; omega), List.length_map, List.length_take, Nat.min_eq_left (by omega), Nat.sub_self, List.getElem?_drop, Nat.add_zero]
theorem rows_loop {C : Or} {body : SF} {y : Lay} {S : Sta} (upd : Ld → Ld) (E : Env → Prop) {h0 : Hv} (a0 : SAt h0 y S)
    (hb : ∀ env r l h, E env → l ∈ S.ls → (∀ i, i ∉ y.rows → h[i]? = h0[i]?) → h.length = h0.length → h[r]? = some (rowO l) → ∃ env1, nmT 6 (.ref r) env h = some env1 ∧ ∃ env2, body C env1 h = .nx env2 (h.set r (rowO (upd l))) ∧ E env2)
    (env0 : Env) (he : E env0) :
    ∃ env' h', forL C (nmT 6) body [(y.L, y.rows.map .ref)] (y.rows.map .ref) env0 h0 = .nx env' h' ∧ E env' ∧ SAt h' y ⟨S.ls.map upd, S.hs, S.nums⟩ ∧ h'.length = h0.length ∧ ∀ i, i ∉ y.rows → h'[i]? = h0[i]? := by
  have nL := a0.ne.2.2.2.2.1
  obtain ⟨env', h', e, j, hx, a, E', fr, hl⟩ := for_inv (C := C) (tg := nmT 6) (body := body) (gs := [(y.L, y.rows.map .ref)])
    (P := fun xs env h => ∃ j, xs = (y.rows.drop j).map .ref ∧ SAt h y ⟨(S.ls.take j).map upd ++ S.ls.drop j, S.hs, S.nums⟩ ∧ E env ∧ (∀ i, i ∉ y.rows → h[i]? = h0[i]?) ∧ h.length = h0.length)
    (by
      rintro xs env h ⟨j, _, a, _, _, _⟩
      simp only [guardsOk, List.all_cons, List.all_nil, Bool.and_true, a.L]
      simp)
    (by
      rintro x xs env h ⟨j, hx, a, E1, fr, hl⟩
      have hj : j < y.rows.length := by
        refine Nat.lt_of_not_le fun h => ?_
        rw [List.drop_of_length_le h] at hx
        cases hx
      have hj2 : j < S.ls.length := by have := a0.len; omega
      rw [List.drop_eq_getElem_cons hj, List.map_cons] at hx
      cases hx
      have hr : y.rows[j]? = some y.rows[j] := List.getElem?_eq_getElem hj
      have hl2 : S.ls[j]? = some S.ls[j] := List.getElem?_eq_getElem hj2
      have hrow := a.row j _ S.ls[j] hr (by rw [← hl2]; exact part_get S.ls upd j hj2)
      obtain ⟨env1, e1, env2, e2, E2⟩ := hb env y.rows[j] S.ls[j] h E1 (List.getElem_mem hj2) fr hl hrow
      refine ⟨env1, e1, env2, _, e2, j + 1, rfl, ?_, E2, ?_, by simp [hl]⟩
      · have := a.setRow hr (upd S.ls[j])
        simp only at this
        rw [part_set S.ls upd j _ hl2] at this
        exact this
      · intro i hi
        rw [List.getElem?_set_ne (fun e : y.rows[j] = i => hi (by rw [← e]; exact List.getElem_mem hj))]
        exact fr i hi)
    (y.rows.map .ref) env0 h0 ⟨0, rfl, by simpa using a0, he, fun _ _ => rfl, rfl⟩
  refine ⟨env', h', e, E', ?_, hl, fr⟩
  have hj : y.rows.length ≤ j := by
    have : (y.rows.drop j).length = 0 := by
      have := congrArg List.length hx
      simpa using this.symm
    rw [List.length_drop] at this
    omega
  have hj2 : S.ls.length ≤ j := by have := a0.len; omega
  rw [List.take_of_length_le hj2, List.drop_of_length_le hj2, List.append_nil] at a
  exact a
theorem set_row1 {h : Hv} {r : Nat} {l : Ld} (hr : h[r]? = some (rowO l)) (n : Int) : setL (.ref r) (.int 1) (.int n) h = some (h.set r (rowO ⟨l.k, n, l.sh⟩)) := setL_ok (k := 1) hr (by simp)
theorem set_row2 {h : Hv} {r : Nat} {l : Ld} (hr : h[r]? = some (rowO l)) (qs : List Rat) : setL (.ref r) (.int 2) (shD qs) h = some (h.set r (rowO ⟨l.k, l.n, qs⟩)) := setL_ok (k := 2) hr (by simp)
/-- what a def leaves that deals with a state -/
structure DoRes (h h' : Hv) (y y' : Lay) (S' : Sta) : Prop where
  sat : SAt h' y' S'
  s : y'.s = y.s
  len : h.length ≤ h'.length
  fr : ∀ i, i < h.length → i ∉ y.refs → h'[i]? = h[i]?
  new : ∀ r ∈ y'.refs, r ∈ y.refs ∨ h.length ≤ r
theorem DoRes.same {h h1 : Hv} {y : Lay} {S' : Sta} (a : SAt h1 y S') (hl : h1.length = h.length) (fr : ∀ i, i ∉ y.refs → h1[i]? = h[i]?) : ∃ h2, gc h .non h1 = .ok .non h2 ∧ DoRes h h2 y y S' := by
  obtain ⟨h2, e, f, l⟩ := gc_any h h1 (by omega)
  refine ⟨h2, e, a.frame fun r hr => f r (by have := a.lt r hr; omega), rfl, l, fun i hi hn => ?_, fun r hr => .inl hr⟩
  rw [f i hi, fr i hn]
theorem un_state {y : Lay} {S : Sta} {h : Hv} (a : SAt h y S) (env : Env) (i j k : Nat) : tupT [nmT i, nmT j, nmT k] (.ref y.s) env h = tgsT [nmT i, nmT j, nmT k] [.ref y.L, shD S.hs, .ref y.N] env h := by
  rw [u_tupTR, a.s]; rfl
theorem _law_turn_throw (k : Nat) (P K t M : Nat) (B x y : Int) (hold : List Rat) (S : Sta) (ly : Lay) (h : Hv) (g : Good P K t M S) (ht : t ≤ 16) (hP : P ≤ 900) (hB : 1 ≤ B ∧ B ≤ 20) (sa : SAt h ly S) {a : Nat} {n : Int} {ws : List Int} {w : Int} (c : Can P K S (.throw a n ws w)) :
    ∃ h', callK T (k + 6) "_law_turn" [trD P K B hold x y, .ref ly.s, thD a n (ws ++ [w])] h = .ok .non h' ∧ DoRes h h' ly ly (after1 P B S (.throw a n ws w)) := by
  obtain ⟨W, eW, W0, W1, ec, hp⟩ := throw_facts g ht hB c
  have hc := c
  obtain ⟨ha, n1, n2, lw, hv, hw⟩ := c
  have M2 : M < 2 ^ 2760 := Nat.lt_of_lt_of_le g.M1 (Nat.pow_le_pow_right (by decide) (by omega))
  have MW : M * W < 2 ^ 4400 := pow_mul_lt M2 W1 (by decide)
  have sc : ∀ {q}, Sq2 t M q → Sc M q := fun h => h.sc (by omega)
  have gsh := g.sh
  have ghs := g.hs
  have c1 : callK T (k + 5) "_law_cost" [trD P K B hold x y, .ref ly.L, thD a n (ws ++ [w])] h = .ok (am (cost B S.ls a n ws w)) h := _law_cost_ok (k + 2) P K t M B x y hold S ly h g ht hB sa hc
  generalize hcost : cost B S.ls a n ws w = p at *
  obtain ⟨r, hr, mr, hrow⟩ := sa.rowAt ha
  have s0 : ∀ h, opIx (thD a n (ws ++ [w])) (.int 0) h = .ok (.str "throw") h := fun h => by simp [thD]
  have s1 : ∀ h, opIx (thD a n (ws ++ [w])) (.int 1) h = .ok (.int a) h := fun h => by simp [thD]
  have s2 : ∀ h, opIx (thD a n (ws ++ [w])) (.int 2) h = .ok (.int n) h := fun h => by simp [thD]
  have x1 : opIx (.ref ly.L) (.int a) h = .ok (.ref r) h := by rw [ix_ref _ _ _ _ sa.L, at_nat, List.getElem?_map, hr]; rfl
  obtain ⟨_, i1, i2⟩ := ix_row hrow
  have st1 := set_row1 hrow ((at_ S.ls a).n - n)
  have sa1 := sa.setRow hr ⟨(at_ S.ls a).k, (at_ S.ls a).n - n, (at_ S.ls a).sh⟩
  generalize hh1 : h.set r (rowO ⟨(at_ S.ls a).k, (at_ S.ls a).n - n, (at_ S.ls a).sh⟩) = h1 at *
  have l1 : h1.length = h.length := by rw [← hh1]; simp
  have f1 : ∀ i, i ∉ ly.rows → h1[i]? = h[i]? := fun i hi => by rw [← hh1, List.getElem?_set_ne (fun e : r = i => hi (by rw [← e]; exact mr))]
  have memS : ∀ l ∈ S.ls.set a ⟨(at_ S.ls a).k, (at_ S.ls a).n - n, (at_ S.ls a).sh⟩, l.sh.length = P ∧ ∀ q ∈ l.sh, Sq2 t M q := by
    intro l hl
    rcases List.mem_or_eq_of_mem_set hl with h | rfl
    · exact gsh l h
    · exact gsh (at_ S.ls a) (at_mem ha)
  obtain ⟨env', h2, e, ⟨z6, rfl⟩, sa2, l2, f2⟩ := rows_loop (C := callK T (k + 5)) (body := (seqS (setS (varF 6) (conF (.int 2)) (callF "_law_borne" [(binF opIx (varF 6) (conF (.int 2))), (varF 7), (varF 8)])) nxS)) (fun l => ⟨l.k, l.n, borne p (at_ S.ls a).sh l.sh⟩)
    (fun env => ∃ z6, env = [some (trD P K B hold x y), some (.ref ly.s), some (thD a n (ws ++ [w])), some (.ref ly.L), some (shD S.hs), some (.ref ly.N), z6, some (am p), some (shD (at_ S.ls a).sh)]) sa1
    (by
      rintro env r' l h' ⟨z6, rfl⟩ hl hfr hlen hrow'
      obtain ⟨_, _, j2⟩ := ix_row hrow'
      have ml := memS l hl
      have b := _law_borne_ok k M W l.sh (at_ S.ls a).sh p h' g.M0 W0 MW (fun q hq => sc (ml.2 q hq)) (fun q hq => sc ((gsh _ (at_mem ha)).2 q hq)) hp (by omega)
      refine ⟨_, rfl, [some (trD P K B hold x y), some (.ref ly.s), some (thD a n (ws ++ [w])), some (.ref ly.L), some (shD S.hs), some (.ref ly.N), some (.ref r'), some (am p), some (shD (at_ S.ls a).sh)], ?_, _, rfl⟩
      simp only [u_seq, u_setS, u_call, u_list, u_list0, u_bin, u_var, List.set_cons_succ, List.set_cons_zero, List.getElem?_cons_succ, List.getElem?_cons_zero, bind_ok, u_con, j2, b, thenS_ok, set_row2 hrow', om_some, nxt_nx, u_nx])
    [some (trD P K B hold x y), some (.ref ly.s), some (thD a n (ws ++ [w])), some (.ref ly.L), some (shD S.hs), some (.ref ly.N), none, some (am p), some (shD (at_ S.ls a).sh)] ⟨none, rfl⟩
  have bh := _law_borne_ok k M W S.hs (at_ S.ls a).sh p h2 g.M0 W0 MW (fun q hq => sc (ghs.2 q hq)) (fun q hq => sc ((gsh _ (at_mem ha)).2 q hq)) hp (by have := ghs.1; omega)
  have st2 : setL (.ref ly.s) (.int 1) (shD (borne p (at_ S.ls a).sh S.hs)) h2 = some (h2.set ly.s (.lst [.ref ly.L, shD (borne p (at_ S.ls a).sh S.hs), .ref ly.N])) := setL_ok (k := 1) sa2.s (by simp)
  have sa3 := sa2.setHold (borne p (at_ S.ls a).sh S.hs)
  have hit : itE (varF 3) (callK T (k + 5)) [some (trD P K B hold x y), some (.ref ly.s), some (thD a n (ws ++ [w])), some (.ref ly.L), some (shD S.hs), some (.ref ly.N), none, some (am p), some (shD (at_ S.ls a).sh)] h1 = .ok (ly.rows.map .ref, [(ly.L, ly.rows.map .ref)]) h1 := itE_l (by simp [u_var]) sa1.L
  obtain ⟨h3, eg, dr⟩ := DoRes.same (h := h) sa3 (by simp [l2, l1]) (fun i hi => by
    simp only [Lay.refs, List.mem_cons, not_or] at hi
    rw [List.getElem?_set_ne (Ne.symm hi.1), f2 i hi.2.2.2, f1 i hi.2.2.2])
  refine ⟨h3, ?_, by simpa [after1, hcost, thrL, lessL] using dr⟩
  rw [callK_eq t__law_turn]
  refine (run_nx (e := [some (trD P K B hold x y), some (.ref ly.s), some (thD a n (ws ++ [w])), some (.ref ly.L), some (shD S.hs), some (.ref ly.N), z6, some (am p), some (shD (at_ S.ls a).sh)]) rfl ?_).trans eg
  simp [-u_for, u_var, R__law_turn, F__law_turn, List.replicate, un_state sa, s0, tth, c1, s1, x1, i2, i1, s2, st1]
  rw [u_for, hit]
  simp only [thenI_ok, e]
  simp [u_var, bh, st2]
theorem _law_turn_sell (k : Nat) (P K t M : Nat) (B : Int) (tr : D) (S : Sta) (ly : Lay) (h : Hv) (g : Good P K t M S) (ht : t ≤ 16) (hP : P ≤ 900) (sa : SAt h ly S) {p q : Nat} {part : Rat} (c : Can P K S (.sell p q part)) :
    ∃ h', callK T (k + 6) "_law_turn" [tr, .ref ly.s, slD p q part] h = .ok .non h' ∧ DoRes h h' ly ly (after1 P B S (.sell p q part)) := by
  obtain ⟨hpq, hp, hq, N, N0, N1, hpt⟩ := c
  have M2 : M < 2 ^ 2760 := Nat.lt_of_lt_of_le g.M1 (Nat.pow_le_pow_right (by decide) (by omega))
  have MN : M * N < 2 ^ 4400 := pow_mul_lt (n := 4) M2 (by omega) (by decide)
  have sc : ∀ {q}, Sq2 t M q → Sc M q := fun h => h.sc (by omega)
  have gsh := g.sh
  have ghs := g.hs
  have s0 : ∀ h, opIx (slD p q part) (.int 0) h = .ok (.str "sell") h := fun h => by simp [slD]
  obtain ⟨env', h2, e, ⟨z6, rfl⟩, sa2, l2, f2⟩ := rows_loop (C := callK T (k + 5)) (body := (seqS (setS (varF 6) (conF (.int 2)) (callF "_law_sold" [(binF opIx (varF 6) (conF (.int 2))), (varF 2)])) nxS)) (fun l => ⟨l.k, l.n, soS p q part l.sh⟩)
    (fun env => ∃ z6, env = [some tr, some (.ref ly.s), some (slD p q part), some (.ref ly.L), some (shD S.hs), some (.ref ly.N), z6, none, none]) sa
    (by
      rintro env r' l h' ⟨z6, rfl⟩ hl hfr hlen hrow'
      obtain ⟨_, _, j2⟩ := ix_row hrow'
      have ml := gsh l hl
      have b := _law_sold_ok k M N l.sh p q part h' (by omega) (by omega) hpq g.M0 N0 MN (fun q hq => sc (ml.2 q hq)) hpt
      refine ⟨_, rfl, [some tr, some (.ref ly.s), some (slD p q part), some (.ref ly.L), some (shD S.hs), some (.ref ly.N), some (.ref r'), none, none], ?_, _, rfl⟩
      simp only [u_seq, u_setS, u_call, u_list, u_list0, u_bin, u_var, List.set_cons_succ, List.set_cons_zero, List.getElem?_cons_succ, List.getElem?_cons_zero, bind_ok, u_con, j2, b, thenS_ok, set_row2 hrow', om_some, nxt_nx, u_nx])
    [some tr, some (.ref ly.s), some (slD p q part), some (.ref ly.L), some (shD S.hs), some (.ref ly.N), none, none, none] ⟨none, rfl⟩
  have bh := _law_sold_ok k M N S.hs p q part h2 (by have := ghs.1; omega) (by have := ghs.1; omega) hpq g.M0 N0 MN (fun q hq => sc (ghs.2 q hq)) hpt
  have st2 : setL (.ref ly.s) (.int 1) (shD (soS p q part S.hs)) h2 = some (h2.set ly.s (.lst [.ref ly.L, shD (soS p q part S.hs), .ref ly.N])) := setL_ok (k := 1) sa2.s (by simp)
  have sa3 := sa2.setHold (soS p q part S.hs)
  have hit : itE (varF 3) (callK T (k + 5)) [some tr, some (.ref ly.s), some (slD p q part), some (.ref ly.L), some (shD S.hs), some (.ref ly.N), none, none, none] h = .ok (ly.rows.map .ref, [(ly.L, ly.rows.map .ref)]) h := itE_l (by simp [u_var]) sa.L
  obtain ⟨h3, eg, dr⟩ := DoRes.same (h := h) sa3 (by simp [l2]) (fun i hi => by
    simp only [Lay.refs, List.mem_cons, not_or] at hi
    rw [List.getElem?_set_ne (Ne.symm hi.1), f2 i hi.2.2.2])
  refine ⟨h3, ?_, by simpa [after1, solL] using dr⟩
  rw [callK_eq t__law_turn]
  refine (run_nx (e := [some tr, some (.ref ly.s), some (slD p q part), some (.ref ly.L), some (shD S.hs), some (.ref ly.N), z6, none, none]) rfl ?_).trans eg
  simp [-u_for, u_var, R__law_turn, F__law_turn, List.replicate, un_state sa, s0, eth]
  rw [u_for, hit]
  simp only [thenI_ok, e]
  simp [u_var, bh, st2]

theorem win (h : Hv) : opIn false (.str "swap") (.tup [.str "swap", .str "trade"]) h = .ok (.bl true) h := by rfl
theorem rin (h : Hv) : opIn false (.str "trade") (.tup [.str "swap", .str "trade"]) h = .ok (.bl true) h := by rfl
theorem sin2 (h : Hv) : opIn false (.str "spoil") (.tup [.str "swap", .str "trade"]) h = .ok (.bl false) h := by rfl
theorem tin2 (h : Hv) : opIn false (.str "throw") (.tup [.str "swap", .str "trade"]) h = .ok (.bl false) h := by rfl
theorem ein2 (h : Hv) : opIn false (.str "sell") (.tup [.str "swap", .str "trade"]) h = .ok (.bl false) h := by rfl
theorem refs_gr (rs : List Nat) (r : Nat) : (Ob.lst ((rs ++ [r]).map .ref)).gr = false := by
  show D.grs _ = false
  induction rs with
  | nil => rfl
  | cons a rs ih => rfl
/-- where a load has come to the list -/
theorem DoRes.more {h h3 : Hv} {y : Lay} {S S' : Sta} {r : Nat} (sa : SAt h y S) (s3 : SAt h3 ⟨y.s, y.L, y.N, y.rows ++ [r]⟩ S') (hr : h.length ≤ r) (hl : h.length ≤ h3.length) (fr : ∀ i, i < h.length → i ∉ y.refs → h3[i]? = h[i]?) :
    gc h .non h3 = .ok .non h3 ∧ DoRes h h3 y ⟨y.s, y.L, y.N, y.rows ++ [r]⟩ S' := by
  have e3 : h3[y.L]? = some (.lst ((y.rows ++ [r]).map .ref)) := s3.L
  refine ⟨gc_keep (i := y.L) (sa.lt _ (by simp [Lay.refs])) e3 (refs_gr _ _) ?_, s3, rfl, hl, fr, ?_⟩
  · rw [sa.L]
    intro e
    have := congrArg (fun o : Option Ob => match o with
      | some (.lst ds) => ds.length
      | _ => 0) e
    simp at this
  · intro x hx
    simp only [Lay.refs, List.mem_cons, List.mem_append, List.mem_singleton, List.not_mem_nil, or_false] at hx ⊢
    rcases hx with h | h | h | h | h
    · exact .inl (.inl h)
    · exact .inl (.inr (.inl h))
    · exact .inl (.inr (.inr (.inl h)))
    · exact .inl (.inr (.inr (.inr h)))
    · exact .inr (by omega)
theorem DoRes.again {h h1 : Hv} {y : Lay} {S' : Sta} (d : DoRes h h1 y y S') (sl : ∀ r ∈ y.refs, r < h.length) : ∃ h2, gc h .non h1 = .ok .non h2 ∧ DoRes h h2 y y S' := by
  obtain ⟨h2, e, f, l⟩ := gc_any h h1 d.len
  exact ⟨h2, e, d.sat.frame fun r hr => f r (sl r hr), rfl, l, fun i hi hn => by rw [f i hi, d.fr i hi hn], fun r hr => .inl hr⟩
theorem app_ref {h : Hv} {L : Nat} {ds : List D} {d : D} (hL : h[L]? = some (.lst ds)) (hl : ds.length ≤ 900) : mAppend (.ref L) [d] h = .ok .non (h.set L (.lst (ds ++ [d]))) := by
  simp only [mAppend, hL]
  rw [if_pos (by unfold szl; omega)]
theorem isl_of {h : Hv} {L : Nat} {o : Ob} (hL : h[L]? = some o) : isLst (.ref L) h = true := by simp [isLst, hL]
section
variable (k P K t M : Nat) (B x y : Int) (hold : List Rat) (S : Sta) (ly : Lay) (h : Hv) (g : Good P K t M S) (ht : t ≤ 16) (hP : P ≤ 900) (sa : SAt h ly S)
include g ht hP sa
theorem do_bring {p kd : Nat} {n : Int} (c : Can P K S (.bring p kd n)) :
    ∃ h' ly', callK T (k + 1) "_law_do" [trD P K B hold x y, .ref ly.s, brD p kd n] h = .ok .non h' ∧ DoRes h h' ly ly' (after1 P B S (.bring p kd n)) := by
  have gl := g.len
  have sl := sa.len
  have s0 : ∀ h, opIx (brD p kd n) (.int 0) h = .ok (.str "bring") h := fun h => by simp [brD]
  have s1 : ∀ h, opIx (brD p kd n) (.int 1) h = .ok (.int p) h := fun h => by simp [brD]
  have s2 : ∀ h, opIx (brD p kd n) (.int 2) h = .ok (.int kd) h := fun h => by simp [brD]
  have s3 : ∀ h, opIx (brD p kd n) (.int 3) h = .ok (.int n) h := fun h => by simp [brD]
  have t0 : ∀ h, opIx (trD P K B hold x y) (.int 0) h = .ok (.int P) h := fun h => by simp [trD]
  have e2 := lc_all (C := callK T k) (env := [some (trD P K B hold x y), some (.ref ly.s), some (brD p kd n), some (.str "bring"), some (.ref ly.L), some (shD S.hs), some (.ref ly.N), none, none, none, none, none, none])
    (it := it1F (binF opIx (varF 0) (conF (.int 0)))) (tg := nmT 7) (own := [7]) (elt := tupF [(bltF bInt [(binF (opEqD false) (varF 7) (binF opIx (varF 2) (conF (.int 1))))]), (conF (.int 1))])
    (gs := []) (h := h) (h1 := h) (List.range P) (fun i => .int (i : Nat)) (fun i => am (if i = p then 1 else 0)) (fun i => [some (trD P K B hold x y), some (.ref ly.s), some (brD p kd n), some (.str "bring"), some (.ref ly.L), some (shD S.hs), some (.ref ly.N), some (.int (i : Nat)), none, none, none, none, none])
    (it1_ok (n := P) (by simp [u_var, t0]) (by omega))
    (fun _ => rfl)
    (by intro i hi acc; simp [wipeD])
    (by intro i hi acc; rw [← am_ind]; simp [u_var, s1])
    (by simp; omega)
  have et := u_tuplel (last_at h (.lst ((List.range P).map fun i => am (if i = p then 1 else 0))))
  have e5 : D.tup ((List.range P).map fun i => am (if i = p then 1 else 0)) = shD (brS P p) := by simp [shD, brS]
  rw [e5] at et
  generalize hO : Ob.lst ((List.range P).map fun i => am (if i = p then 1 else 0)) = O at *
  have hr : (h ++ [O, rowO ⟨kd, n, brS P p⟩])[h.length + 1]? = some (rowO ⟨kd, n, brS P p⟩) := by
    rw [List.getElem?_append_right (by omega), show h.length + 1 - h.length = 1 by omega]; rfl
  have sb : SAt (h ++ [O, rowO ⟨kd, n, brS P p⟩]) ly S := sa.frame fun r hr => by rw [List.getElem?_append_left (sa.lt r hr)]
  have nr : h.length + 1 ∉ ly.refs := fun hm => by have := sa.lt _ hm; omega
  have sc := sb.addRow nr ⟨kd, n, brS P p⟩ hr
  obtain ⟨eg, dr⟩ := DoRes.more sa sc (by omega) (by simp) (fun i hi hn => by
    simp only [Lay.refs, List.mem_cons, not_or] at hn
    rw [List.getElem?_set_ne (Ne.symm hn.2.1), List.getElem?_append_left hi])
  refine ⟨_, _, ?_, dr⟩
  rw [callK_eq t__law_do]
  refine (run_nx (e := [some (trD P K B hold x y), some (.ref ly.s), some (brD p kd n), some (.str "bring"), some (.ref ly.L), some (shD S.hs), some (.ref ly.N), none, none, none, none, none, none]) rfl ?_).trans eg
  have ap := app_ref (d := .ref (h.length + 1)) sb.L (by simp; omega)
  simp only [rowO] at ap
  simp [u_var, R__law_do, F__law_do, List.replicate, un_state sa, s0, s2, s3, bb, methF, isl_of sa.L, e2, et, rowO, ap]
theorem do_spoil {a : Nat} {n : Int} (tr : D) (c : Can P K S (.spoil a n)) :
    ∃ h' ly', callK T (k + 1) "_law_do" [tr, .ref ly.s, spD a n] h = .ok .non h' ∧ DoRes h h' ly ly' (after1 P B S (.spoil a n)) := by
  obtain ⟨ha, n1, n2⟩ := c
  obtain ⟨r, hr, mr, hrow⟩ := sa.rowAt ha
  have s0 : ∀ h, opIx (spD a n) (.int 0) h = .ok (.str "spoil") h := fun h => by simp [spD]
  have s1 : ∀ h, opIx (spD a n) (.int 1) h = .ok (.int a) h := fun h => by simp [spD]
  have s2 : ∀ h, opIx (spD a n) (.int 2) h = .ok (.int n) h := fun h => by simp [spD]
  have x1 : opIx (.ref ly.L) (.int a) h = .ok (.ref r) h := by rw [ix_ref _ _ _ _ sa.L, at_nat, List.getElem?_map, hr]; rfl
  obtain ⟨_, i1, i2⟩ := ix_row hrow
  have st1 := set_row1 hrow ((at_ S.ls a).n - n)
  have sa1 := sa.setRow hr ⟨(at_ S.ls a).k, (at_ S.ls a).n - n, (at_ S.ls a).sh⟩
  obtain ⟨h3, eg, dr⟩ := DoRes.same (h := h) sa1 (by simp) (fun i hi => by
    simp only [Lay.refs, List.mem_cons, not_or] at hi
    rw [List.getElem?_set_ne (fun e : r = i => hi.2.2.2 (by rw [← e]; exact mr))])
  refine ⟨h3, ly, ?_, dr⟩
  rw [callK_eq t__law_do]
  refine (run_nx (e := [some tr, some (.ref ly.s), some (spD a n), some (.str "spoil"), some (.ref ly.L), some (shD S.hs), some (.ref ly.N), none, none, none, none, none, none]) rfl ?_).trans eg
  simp [u_var, R__law_do, F__law_do, List.replicate, un_state sa, s0, s1, s2, sb, sp, sin2, ssp, x1, i1, st1]
theorem do_throw {a : Nat} {n : Int} {ws : List Int} {w : Int} (hB : 1 ≤ B ∧ B ≤ 20) (c : Can P K S (.throw a n ws w)) :
    ∃ h' ly', callK T (k + 7) "_law_do" [trD P K B hold x y, .ref ly.s, thD a n (ws ++ [w])] h = .ok .non h' ∧ DoRes h h' ly ly' (after1 P B S (.throw a n ws w)) := by
  obtain ⟨h1, e, d⟩ := _law_turn_throw k P K t M B x y hold S ly h g ht hP hB sa c
  obtain ⟨h2, eg, dr⟩ := d.again sa.lt
  refine ⟨h2, ly, ?_, dr⟩
  have s0 : ∀ h, opIx (thD a n (ws ++ [w])) (.int 0) h = .ok (.str "throw") h := fun h => by simp [thD]
  rw [callK_eq t__law_do]
  generalize thD a n (ws ++ [w]) = dd at *
  refine (run_nx (e := [some (trD P K B hold x y), some (.ref ly.s), some dd, some (.str "throw"), some (.ref ly.L), some (shD S.hs), some (.ref ly.N), none, none, none, none, none, none]) rfl ?_).trans eg
  simp [u_var, R__law_do, F__law_do, List.replicate, un_state sa, s0, tb, tp, tin2, tsp, e]
theorem do_sell {p q : Nat} {part : Rat} (tr : D) (c : Can P K S (.sell p q part)) :
    ∃ h' ly', callK T (k + 7) "_law_do" [tr, .ref ly.s, slD p q part] h = .ok .non h' ∧ DoRes h h' ly ly' (after1 P B S (.sell p q part)) := by
  obtain ⟨h1, e, d⟩ := _law_turn_sell k P K t M B tr S ly h g ht hP sa c
  obtain ⟨h2, eg, dr⟩ := d.again sa.lt
  refine ⟨h2, ly, ?_, dr⟩
  have s0 : ∀ h, opIx (slD p q part) (.int 0) h = .ok (.str "sell") h := fun h => by simp [slD]
  rw [callK_eq t__law_do]
  generalize slD p q part = dd at *
  refine (run_nx (e := [some tr, some (.ref ly.s), some dd, some (.str "sell"), some (.ref ly.L), some (shD S.hs), some (.ref ly.N), none, none, none, none, none, none]) rfl ?_).trans eg
  simp [u_var, R__law_do, F__law_do, List.replicate, un_state sa, s0, eb, epo, ein2, esp, e]
end

section
variable (k P K t M : Nat) (S : Sta) (ly : Lay) (h : Hv) (g : Good P K t M S) (ht : t ≤ 16) (hP : P ≤ 900) (sa : SAt h ly S)
include g ht hP sa
theorem do_pool {a b : Nat} (tr : D) (c : Can P K S (.pool a b)) :
    ∃ h' ly', callK T (k + 5) "_law_do" [tr, .ref ly.s, poD a b] h = .ok .non h' ∧ DoRes h h' ly ly' (after1 P B S (.pool a b)) := by
  obtain ⟨hab, ha, hb, n1, n2, hk⟩ := c
  have gl := g.len
  have sl := sa.len
  have M2 : M < 2 ^ 2760 := Nat.lt_of_lt_of_le g.M1 (Nat.pow_le_pow_right (by decide) (by omega))
  have sc : ∀ {q}, Sq2 t M q → Sc M q := fun h => h.sc (by omega)
  have tn := tot_nn g.nn
  have na := tn.2 _ (at_mem ha)
  have nb := tn.2 _ (at_mem hb)
  have qa := g.sh _ (at_mem ha)
  have qb := g.sh _ (at_mem hb)
  have gt := g.tot
  have tb' : ((4 : Int) + t) * 2 ^ 131 ≤ 20 * 2 ^ 131 := Int.mul_le_mul_of_nonneg_right (by omega) (by decide)
  obtain ⟨r1, hr1, mr1, hrow1⟩ := sa.rowAt ha
  obtain ⟨r2, hr2, mr2, hrow2⟩ := sa.rowAt hb
  have s0 : ∀ h, opIx (poD a b) (.int 0) h = .ok (.str "pool") h := fun h => by simp [poD]
  have s1 : ∀ h, opIx (poD a b) (.int 1) h = .ok (.int a) h := fun h => by simp [poD]
  have s2 : ∀ h, opIx (poD a b) (.int 2) h = .ok (.int b) h := fun h => by simp [poD]
  have x1 : opIx (.ref ly.L) (.int a) h = .ok (.ref r1) h := by rw [ix_ref _ _ _ _ sa.L, at_nat, List.getElem?_map, hr1]; rfl
  have x2 : opIx (.ref ly.L) (.int b) h = .ok (.ref r2) h := by rw [ix_ref _ _ _ _ sa.L, at_nat, List.getElem?_map, hr2]; rfl
  obtain ⟨i0, i1, i2⟩ := ix_row hrow1
  obtain ⟨j0, j1, j2⟩ := ix_row hrow2
  have cp : callK T (k + 4) "_law_pooled" [.ref r1, .ref r2] h = .ok (shD (plS (at_ S.ls a).n (at_ S.ls b).n (at_ S.ls a).sh (at_ S.ls b).sh)) h :=
    _law_pooled_ok k _ _ r1 r2 M h hrow1 hrow2 g.M0 (Nat.lt_of_lt_of_le M2 (Nat.pow_le_pow_right (by decide) (by decide))) (fun q hq => sc (qa.2 q hq)) (fun q hq => sc (qb.2 q hq)) (by omega) ⟨n1, by omega⟩ ⟨n2, by omega⟩
  generalize hnew : (⟨(at_ S.ls a).k, (at_ S.ls a).n + (at_ S.ls b).n, plS (at_ S.ls a).n (at_ S.ls b).n (at_ S.ls a).sh (at_ S.ls b).sh⟩ : Ld) = new at *
  have hr : (h ++ [rowO new])[h.length]? = some (rowO new) := last_at _ _
  have sb : SAt (h ++ [rowO new]) ly S := sa.frame fun r hr => by rw [List.getElem?_append_left (sa.lt r hr)]
  have nr : h.length ∉ ly.refs := fun hm => by have := sa.lt _ hm; omega
  have sc2 := sb.addRow nr new hr
  have ap := app_ref (d := .ref h.length) sb.L (by simp; omega)
  have hL2 : ly.rows.map D.ref ++ [.ref h.length] = (ly.rows ++ [h.length]).map .ref := by simp
  rw [hL2] at ap
  generalize hh2 : (h ++ [rowO new]).set ly.L (.lst ((ly.rows ++ [h.length]).map .ref)) = h2 at *
  have y1 : (ly.rows ++ [h.length])[a]? = some r1 := by rw [List.getElem?_append_left (by omega)]; exact hr1
  have y2 : (ly.rows ++ [h.length])[b]? = some r2 := by rw [List.getElem?_append_left (by omega)]; exact hr2
  have row1 := sc2.row a r1 (at_ S.ls a) y1 (by show (S.ls ++ [new])[a]? = _; rw [List.getElem?_append_left ha]; exact at_some ha)
  have st1 := set_row1 row1 0
  have sc3 := sc2.setRow y1 ⟨(at_ S.ls a).k, 0, (at_ S.ls a).sh⟩
  have row2 := sc3.row b r2 (at_ S.ls b) y2 (by show ((S.ls ++ [new]).set a _)[b]? = _; rw [List.getElem?_set_ne hab, List.getElem?_append_left hb]; exact at_some hb)
  have st2 := set_row1 row2 0
  have sc4 := sc3.setRow y2 ⟨(at_ S.ls b).k, 0, (at_ S.ls b).sh⟩
  obtain ⟨eg, dr⟩ := DoRes.more sa sc4 (Nat.le_refl _) (by simp [← hh2]) (fun i hi hn => by
    simp only [Lay.refs, List.mem_cons, not_or] at hn
    rw [List.getElem?_set_ne (fun e : r2 = i => hn.2.2.2 (by rw [← e]; exact mr2)), List.getElem?_set_ne (fun e : r1 = i => hn.2.2.2 (by rw [← e]; exact mr1)), ← hh2, List.getElem?_set_ne (Ne.symm hn.2.1), List.getElem?_append_left hi])
  have eS : after1 P B S (.pool a b) = ⟨((S.ls ++ [new]).set a ⟨(at_ S.ls a).k, 0, (at_ S.ls a).sh⟩).set b ⟨(at_ S.ls b).k, 0, (at_ S.ls b).sh⟩, S.hs, S.nums⟩ := by
    simp only [after1, lessL, Int.sub_self, hnew]
    rw [List.set_append_left _ _ ha, List.set_append_left _ _ (by simpa using hb)]
  refine ⟨_, _, ?_, by rw [eS]; exact dr⟩
  rw [callK_eq t__law_do]
  refine (run_nx (e := [some tr, some (.ref ly.s), some (poD a b), some (.str "pool"), some (.ref ly.L), some (shD S.hs), some (.ref ly.N), some (.ref r1), some (.ref r2), none, none, none, none]) rfl ?_).trans eg
  rw [← hnew] at ap
  simp only [rowO] at ap
  simp [u_var, R__law_do, F__law_do, List.replicate, un_state sa, s0, s1, s2, pb, pp, x1, x2, methF, isl_of sa.L, i0, i1, j1, cp, ap, st1, st2]
omit g ht hP sa in
theorem ext_tup {h : Hv} {N : Nat} {ds es : List D} (hN : h[N]? = some (.lst ds)) (hl : ds.length + es.length ≤ 900) : mExtend (.ref N) [.tup es] h = .ok .non (h.set N (.lst (ds ++ es))) := by
  simp only [mExtend, hN]
  rw [if_pos (by unfold szl; omega)]
theorem swap_core {a kd : Nat} {gv n : Int} (ha : a < S.ls.length) (ns : List Int) (hns : ns.length ≤ 2) :
    ∃ r h1 h2 h3, ly.rows[a]? = some r ∧ opIx (.ref ly.L) (.int a) h = .ok (.ref r) h ∧ h[r]? = some (rowO (at_ S.ls a)) ∧ setL (.ref r) (.int 1) (.int ((at_ S.ls a).n - gv)) h = some h1 ∧ opIx (.ref ly.L) (.int a) h1 = .ok (.ref r) h1 ∧ opIx (.ref r) (.int 2) h1 = .ok (shD (at_ S.ls a).sh) h1 ∧
      isLst (.ref ly.L) h1 = true ∧ mAppend (.ref ly.L) [.ref h1.length] (h1 ++ [rowO ⟨kd, n, (at_ S.ls a).sh⟩]) = .ok .non h2 ∧ isLst (.ref ly.N) h2 = true ∧ mExtend (.ref ly.N) [.tup (ns.map .int)] h2 = .ok .non h3 ∧
      gc h .non h3 = .ok .non h3 ∧ ∃ ly', DoRes h h3 ly ly' ⟨lessL S.ls a (at_ S.ls a) gv ++ [⟨kd, n, (at_ S.ls a).sh⟩], S.hs, S.nums ++ ns⟩ := by
  have gl := g.len
  have gn := g.nums
  have sl := sa.len
  obtain ⟨r, hr, mr, hrow⟩ := sa.rowAt ha
  have st1 := set_row1 hrow ((at_ S.ls a).n - gv)
  have sa1 := sa.setRow hr ⟨(at_ S.ls a).k, (at_ S.ls a).n - gv, (at_ S.ls a).sh⟩
  generalize hh1 : h.set r (rowO ⟨(at_ S.ls a).k, (at_ S.ls a).n - gv, (at_ S.ls a).sh⟩) = h1 at *
  have l1 : h1.length = h.length := by rw [← hh1]; simp
  have row1 := sa1.row a r ⟨(at_ S.ls a).k, (at_ S.ls a).n - gv, (at_ S.ls a).sh⟩ hr (List.getElem?_set_self ha)
  have hr2 : (h1 ++ [rowO ⟨kd, n, (at_ S.ls a).sh⟩])[h1.length]? = some (rowO ⟨kd, n, (at_ S.ls a).sh⟩) := last_at _ _
  have sb : SAt (h1 ++ [rowO ⟨kd, n, (at_ S.ls a).sh⟩]) ly ⟨S.ls.set a ⟨(at_ S.ls a).k, (at_ S.ls a).n - gv, (at_ S.ls a).sh⟩, S.hs, S.nums⟩ := sa1.frame fun r hr => by rw [List.getElem?_append_left (sa1.lt r hr)]
  have nr : h1.length ∉ ly.refs := fun hm => by have := sa1.lt _ hm; omega
  have sc2 := sb.addRow nr ⟨kd, n, (at_ S.ls a).sh⟩ hr2
  have ap := app_ref (d := .ref h1.length) sb.L (by simp; omega)
  have hL2 : ly.rows.map D.ref ++ [.ref h1.length] = (ly.rows ++ [h1.length]).map .ref := by simp
  rw [hL2] at ap
  generalize hh2 : (h1 ++ [rowO ⟨kd, n, (at_ S.ls a).sh⟩]).set ly.L (.lst ((ly.rows ++ [h1.length]).map .ref)) = h2 at *
  have l2 : h2.length = h.length + 1 := by rw [← hh2]; simp [l1]
  have ex := ext_tup (es := ns.map .int) sc2.N (by simp; omega)
  have hN2 : S.nums.map D.int ++ ns.map .int = (S.nums ++ ns).map .int := by simp
  simp only [hN2] at ex
  have sc3 := sc2.setNums (S.nums ++ ns)
  obtain ⟨eg, dr⟩ := DoRes.more sa sc3 (by omega) (by simp [l2]) (fun i hi hn => by
    simp only [Lay.refs, List.mem_cons, not_or] at hn
    show (h2.set ly.N _)[i]? = _
    rw [List.getElem?_set_ne (Ne.symm hn.2.2.1), ← hh2, List.getElem?_set_ne (Ne.symm hn.2.1), List.getElem?_append_left (by omega), ← hh1, List.getElem?_set_ne (fun e : r = i => hn.2.2.2 (by rw [← e]; exact mr))])
  refine ⟨r, h1, h2, _, hr, by rw [ix_ref _ _ _ _ sa.L, at_nat, List.getElem?_map, hr]; rfl, hrow, st1, by rw [ix_ref _ _ _ _ sa1.L, at_nat, List.getElem?_map, hr]; rfl, (ix_row row1).2.2, isl_of sa1.L, ap, isl_of sc2.N, ex, eg, _, dr⟩
theorem do_swap {a kd : Nat} {gv n : Int} (tr : D) (c : Can P K S (.swap a gv kd n)) :
    ∃ h' ly', callK T (k + 1) "_law_do" [tr, .ref ly.s, swD a gv kd n] h = .ok .non h' ∧ DoRes h h' ly ly' (after1 P B S (.swap a gv kd n)) := by
  obtain ⟨ha, g1, g2, hk, hne, n1, n2⟩ := c
  obtain ⟨r, h1, h2, h3, hr, x1, hrow, st1, x2, i2, il, ap, il2, ex, eg, ly', dr⟩ := swap_core P K t M S ly h g ht hP sa (kd := kd) (gv := gv) (n := n) ha [] (by simp)
  refine ⟨h3, ly', ?_, by simpa [after1] using dr⟩
  have s0 : ∀ h, opIx (swD a gv kd n) (.int 0) h = .ok (.str "swap") h := fun h => by simp [swD]
  have cut : ∀ h, opSl (swD a gv kd n) (some (-4)) none h = .ok (.tup [.int a, .int gv, .int kd, .int n]) h := fun h => rfl
  have cut2 : ∀ h, opSl (swD a gv kd n) (some 1) (some 2) h = .ok (.tup [.int a]) h := fun h => rfl
  rw [callK_eq t__law_do]
  refine (run_nx (e := [some tr, some (.ref ly.s), some (swD a gv kd n), some (.str "swap"), some (.ref ly.L), some (shD S.hs), some (.ref ly.N), none, none, some (.int a), some (.int gv), some (.int kd), some (.int n)]) rfl ?_).trans eg
  have i1 := (ix_row hrow).2.1
  simp only [rowO] at ap
  simp only [List.map_nil] at ex
  have tl : ∀ h, opMul (.tup [.int a]) (.int 0) h = .ok (.tup []) h := fun h => rfl
  simp [u_var, R__law_do, F__law_do, List.replicate, un_state sa, s0, wb, wp, win, cut, x1, i1, st1, methF, il, x2, i2, ap, il2, cut2, wt, tl, ex]
theorem do_trade {a kd : Nat} {no gv n : Int} (tr : D) (c : Can P K S (.trade no a gv kd n)) :
    ∃ h' ly', callK T (k + 1) "_law_do" [tr, .ref ly.s, traD no a gv kd n] h = .ok .non h' ∧ DoRes h h' ly ly' (after1 P B S (.trade no a gv kd n)) := by
  obtain ⟨hno, ha, g1, g2, hk, hne, n1, n2⟩ := c
  obtain ⟨r, h1, h2, h3, hr, x1, hrow, st1, x2, i2, il, ap, il2, ex, eg, ly', dr⟩ := swap_core P K t M S ly h g ht hP sa (kd := kd) (gv := gv) (n := n) ha [no] (by simp)
  refine ⟨h3, ly', ?_, dr⟩
  have s0 : ∀ h, opIx (traD no a gv kd n) (.int 0) h = .ok (.str "trade") h := fun h => by simp [traD]
  have cut : ∀ h, opSl (traD no a gv kd n) (some (-4)) none h = .ok (.tup [.int a, .int gv, .int kd, .int n]) h := fun h => rfl
  have cut2 : ∀ h, opSl (traD no a gv kd n) (some 1) (some 2) h = .ok (.tup [.int no]) h := fun h => rfl
  rw [callK_eq t__law_do]
  refine (run_nx (e := [some tr, some (.ref ly.s), some (traD no a gv kd n), some (.str "trade"), some (.ref ly.L), some (shD S.hs), some (.ref ly.N), none, none, some (.int a), some (.int gv), some (.int kd), some (.int n)]) rfl ?_).trans eg
  have i1 := (ix_row hrow).2.1
  simp only [rowO] at ap
  simp only [List.map_cons, List.map_nil] at ex
  have tl : ∀ h, opMul (.tup [.int no]) (.int 1) h = .ok (.tup [.int no]) h := fun h => rfl
  simp [u_var, R__law_do, F__law_do, List.replicate, un_state sa, s0, rb, rp, rin, cut, x1, i1, st1, methF, il, x2, i2, ap, il2, cut2, rt, tl, ex]
end
theorem _law_do_ok (k P K t M : Nat) (B x y : Int) (hold : List Rat) (S : Sta) (ly : Lay) (h : Hv) (g : Good P K t M S) (ht : t ≤ 16) (hP : P ≤ 900) (sa : SAt h ly S) (hB : 1 ≤ B ∧ B ≤ 20) {d : Dd} (c : Can P K S d) :
    ∃ h' ly', callK T (k + 7) "_law_do" [trD P K B hold x y, .ref ly.s, d.d] h = .ok .non h' ∧ DoRes h h' ly ly' (after1 P B S d) := by
  cases d with
  | bring p kd n => exact do_bring (k + 6) P K t M B x y hold S ly h g ht hP sa c
  | pool a b => exact do_pool (B := B) (k + 2) P K t M S ly h g ht hP sa _ c
  | swap a gv kd n => exact do_swap (B := B) (k + 6) P K t M S ly h g ht hP sa _ c
  | trade no a gv kd n => exact do_trade (B := B) (k + 6) P K t M S ly h g ht hP sa _ c
  | spoil a n => exact do_spoil (k + 6) P K t M B S ly h g ht hP sa _ c
  | throw a n ws w => exact do_throw k P K t M B x y hold S ly h g ht hP sa hB c
  | sell p q part => exact do_sell k P K t M B S ly h g ht hP sa _ c

def LDS11 : SF := (retS (tupF [(conF (.str "throw")), (varF 5), (varF 6), (callF "_law_worths" [(varF 0), (binF opAdd (binF opIx (varF 1) (conF (.int 1))) (conF (.int 1)))])]))
def LD11 : SF := seqS LDS11 nxS
def LDS10 : SF := (ifS (andF (binF (opEqD false) (varF 4) (conF (.int 9))) (binF opGt (binF opIx (varF 1) (conF (.int 0))) (conF (.int 1)))) (seqS (asgS (nmT 13) (callF "_law_draw" [(varF 0), (binF opIx (varF 1) (conF (.int 0)))])) (seqS (retS (tupF [(conF (.str "sell")), (varF 13), (binF opMod (binF opAdd (binF opAdd (varF 13) (conF (.int 1))) (callF "_law_draw" [(varF 0), (binF opSub (binF opIx (varF 1) (conF (.int 0))) (conF (.int 1)))])) (binF opIx (varF 1) (conF (.int 0)))), (callF "_law_share" [(varF 0)])])) nxS)) nxS)
def LD10 : SF := seqS LDS10 LD11
def LDS9 : SF := (ifS (binF (opEqD false) (varF 4) (conF (.int 8))) (seqS (retS (tupF [(conF (.str "spoil")), (varF 5), (varF 6)])) nxS) nxS)
def LD9 : SF := seqS LDS9 LD10
def LDS8 : SF := (ifS (andF (binF opLt (varF 4) (conF (.int 8))) (binF opGt (binF opIx (varF 1) (conF (.int 1))) (conF (.int 1)))) (seqS (asgS (nmT 11) (binF opMod (binF opAdd (binF opAdd (binF opIx (binF opIx (varF 7) (varF 5)) (conF (.int 0))) (conF (.int 1))) (callF "_law_draw" [(varF 0), (binF opSub (binF opIx (varF 1) (conF (.int 1))) (conF (.int 1)))])) (binF opIx (varF 1) (conF (.int 1))))) (seqS (asgS (nmT 12) (lcF (it1F (conF (.int 10))) (nmT 15) [15] (binF (opIn true) (varF 15) (varF 9)) (varF 15))) (seqS (ifS (andF (binF (opEqD false) (varF 4) (conF (.int 7))) (binF (opEqD true) (varF 12) (lstF []))) (seqS (retS (tupF [(conF (.str "trade")), (binF opIx (varF 12) (callF "_law_draw" [(varF 0), (bltF bLen [(varF 12)])])), (varF 5), (varF 6), (varF 11), (callF "_law_pieces" [(varF 0)])])) nxS) nxS) (seqS (retS (tupF [(conF (.str "swap")), (varF 5), (varF 6), (varF 11), (callF "_law_pieces" [(varF 0)])])) nxS)))) nxS)
def LD8 : SF := seqS LDS8 LD9
def LDS7 : SF := (ifS (binF opLt (varF 4) (conF (.int 5))) (seqS (asgS (nmT 10) (lcF (itE (varF 3)) (nmT 14) [14] (andF (binF (opEqD true) (varF 14) (varF 5)) (binF (opEqD false) (binF opIx (binF opIx (varF 7) (varF 14)) (conF (.int 0))) (binF opIx (binF opIx (varF 7) (varF 5)) (conF (.int 0))))) (varF 14))) (seqS (ifS (binF (opEqD true) (varF 10) (lstF [])) (seqS (retS (tupF [(conF (.str "pool")), (varF 5), (binF opIx (varF 10) (callF "_law_draw" [(varF 0), (bltF bLen [(varF 10)])]))])) nxS) nxS) nxS)) nxS)
def LD7 : SF := seqS LDS7 LD8
def LDS6 : SF := (asgS (nmT 6) (binF opAdd (conF (.int 1)) (callF "_law_draw" [(varF 0), (bltF bMin [(binF opIx (binF opIx (varF 7) (varF 5)) (conF (.int 1))), (conF (.int 2000))])])))
def LD6 : SF := seqS LDS6 LD7
def LDS5 : SF := (asgS (nmT 5) (binF opIx (varF 3) (callF "_law_draw" [(varF 0), (bltF bLen [(varF 3)])])))
def LD5 : SF := seqS LDS5 LD6
def LDS4 : SF := (ifS (orF (binF opLt (varF 4) (conF (.int 2))) (binF (opEqD false) (varF 3) (lstF []))) (seqS (retS (tupF [(conF (.str "bring")), (callF "_law_draw" [(varF 0), (binF opIx (varF 1) (conF (.int 0)))]), (callF "_law_draw" [(varF 0), (binF opIx (varF 1) (conF (.int 1)))]), (callF "_law_pieces" [(varF 0)])])) nxS) nxS)
def LD4 : SF := seqS LDS4 LD5
def LDS3 : SF := (asgS (nmT 4) (callF "_law_draw" [(varF 0), (conF (.int 12))]))
def LD3 : SF := seqS LDS3 LD4
def LDS2 : SF := (asgS (nmT 3) (lcF (itN (varF 7)) (tupT [(nmT 14), (nmT 5)]) [14, 5] (binF opGt (binF opIx (varF 5) (conF (.int 1))) (conF (.int 0))) (varF 14)))
def LD2 : SF := seqS LDS2 LD3
def LDS1 : SF := (asgS (tupT [(nmT 7), (nmT 8), (nmT 9)]) (varF 2))
def LD1 : SF := seqS LDS1 LD2
theorem LD_split : F__law_deed = LD1 := rfl
theorem _law_worths_ok (k : Nat) (n : Nat) (h0 : Hv) (pen : List D) (g : Hv) (hn1 : n ≤ 1000) (hpn : PenOk pen) :
    ∃ (ws : List Int) (pen' : List D), ws.length = n ∧ (∀ w ∈ ws, 1 ≤ w ∧ w ≤ 99) ∧ PenOk pen' ∧
      callK T (k + 3) "_law_worths" [.ref h0.length, .int n] (hp h0 pen g) = .ok (wsD ws) (hp h0 pen' g) := by
  obtain ⟨ws, pen1, g1, l1, p1, hp1, e1⟩ := lc_drawn (C := callK T (k + 2)) (env := [some (.ref h0.length), some (.int n), none]) (it := it1F (varF 1)) (tg := nmT 2) (own := [2])
    (elt := binF opAdd (conF (.int 1)) (binF opIx (lstF [(callF "_law_draw" [(varF 0), (conF (.int 3))]), (callF "_law_draw" [(varF 0), (conF (.int 99))])]) (callF "_law_draw" [(varF 0), (conF (.int 2))])))
    (h0 := h0) (g := g) (pen := pen) (fun w : Int => 1 ≤ w ∧ w ≤ 99) .int ((List.range n).map fun i => .int (i : Nat))
    (it1_ok (n := n) (by simp [u_var]) (by omega))
    (by
      intro x hx
      refine ⟨[some (.ref h0.length), some (.int n), some x], fun hh => by simp [wipeD], ?_⟩
      intro pen g' hp0
      obtain ⟨r1, pen1, a1, b1, hp1, e1⟩ := _law_draw_ok (k + 1) 3 h0 pen g' (by decide) (by decide) hp0
      obtain ⟨r2, pen2, a2, b2, hp2, e2⟩ := _law_draw_ok (k + 1) 99 h0 pen1 g' (by decide) (by decide) hp1
      obtain ⟨r3, pen3, a3, b3, hp3, e3⟩ := _law_draw_ok (k + 1) 2 h0 pen2 (g' ++ [.lst [.int r1, .int r2]]) (by decide) (by decide) hp2
      have hx := ix_ref (hp h0 pen3 (g' ++ [.lst [.int r1, .int r2]])) r3 (h0.length + 1 + g'.length) [.int r1, .int r2] (by rw [hp_get1]; simp)
      have hr : r3 = 0 ∨ r3 = 1 := by omega
      rcases hr with rfl | rfl
      · refine ⟨1 + r1, pen3, [.lst [.int r1, .int r2]], by omega, hp3, ?_⟩
        rw [at0] at hx
        simp [u_var, e1, e2, e3, hx]
      · refine ⟨1 + r2, pen3, [.lst [.int r1, .int r2]], by omega, hp3, ?_⟩
        rw [at1] at hx
        simp [u_var, e1, e2, e3, hx])
    hpn (by simp; omega)
  rw [List.length_map, List.length_range] at l1
  refine ⟨ws, pen1, l1, p1, hp1, ?_⟩
  rw [callK_eq t__law_worths]
  have gr : (wsD ws).gr = true := by
    show D.grs _ = true
    clear e1 p1 l1
    induction ws with
    | nil => rfl
    | cons q qs ih => simpa [D.grs, D.gr] using ih
  refine (run_rt rfl ?_).trans (gc_hp (g' := .lst (ws.map .int) :: g1) gr hp1.grs)
  have et := u_tuplel (p := h0.length + 1 + g.length) (ds := ws.map .int) (h := hp h0 pen1 (g ++ .lst (ws.map .int) :: g1)) (by rw [hp_get1]; simp)
  simp [u_var, R__law_worths, F__law_worths, e1, et, List.replicate, wsD]
theorem mod_ne {u r P : Int} (hu : 0 ≤ u ∧ u < P) (hr : 0 ≤ r ∧ r < P - 1) : 0 ≤ (u + 1 + r) % P ∧ (u + 1 + r) % P < P ∧ (u + 1 + r) % P ≠ u := by
  refine ⟨Int.emod_nonneg _ (by omega), Int.emod_lt_of_pos _ (by omega), ?_⟩
  by_cases hlt : u + 1 + r < P
  · rw [Int.emod_eq_of_lt (by omega) hlt]; omega
  · have e := Int.add_emod_right (u + 1 + r - P) P
    rw [Int.sub_add_cancel, Int.emod_eq_of_lt (a := u + 1 + r - P) (by omega) (by omega)] at e
    rw [e]; omega
theorem sat_ext {h0 gg : Hv} {ly : Lay} {S : Sta} (a : ∀ pen, SAt (hp h0 pen gg) ly S) (e : Hv) (pen : List D) : SAt (hp h0 pen (gg ++ e)) ly S := by
  rw [← hp_app]
  exact (a pen).frame fun r hr => by rw [List.getElem?_append_left ((a pen).lt r hr)]
theorem toPs_int (h : Hv) (n : Nat) : ∀ ns : List Int, toPs h n (ns.map .int) = some (ns.map PyData.int)
  | [] => by simp [toPs]
  | a :: ns => by simp [toPs, toP, toPs_int h n ns]
theorem eq_nil {h : Hv} {p q : Nat} {ns : List Int} (hp : h[p]? = some (.lst (ns.map .int))) (hq : h[q]? = some (.lst [])) (neg : Bool) : opEqD neg (.ref p) (.ref q) h = .ok (.bl (if neg then !decide (ns = []) else decide (ns = []))) h := by
  have e1 : toP h 60 (.ref p) = some (.list (ns.map PyData.int)) := by simp [toP, hp, toPs_int]
  have e2 : toP h 60 (.ref q) = some (.list []) := by simp [toP, hq, toPs]
  have e3 : PyData.eqv (.list (ns.map PyData.int)) (.list []) = decide (ns = []) := by
    cases ns with
    | nil => simp [PyData.eqv, PyData.eqvAll]
    | cons a ns => simp [PyData.eqv, PyData.eqvAll]
  simp [opEqD, e1, e2, e3]
theorem not_inR {h : Hv} {p : Nat} {ns : List Int} (hp : h[p]? = some (.lst (ns.map .int))) (no : Int) : opIn true (.int no) (.ref p) h = .ok (.bl (decide (no ∉ ns))) h := by
  have e1 : (ns.map D.int).all flatD = true := by
    rw [List.all_eq_true]; intro x hx
    obtain ⟨i, _, rfl⟩ := List.mem_map.1 hx
    rfl
  have e2 : (ns.map D.int).any (fun y => eqD y (.int no)) = decide (no ∈ ns) := by
    rw [Bool.eq_iff_iff, List.any_eq_true, decide_eq_true_iff]
    constructor
    · rintro ⟨x, hx, e⟩
      obtain ⟨i, hi, rfl⟩ := List.mem_map.1 hx
      rw [eqD_int] at e
      rw [← eq_of_beq e]; exact hi
    · intro hm
      exact ⟨.int no, List.mem_map.2 ⟨no, hm, rfl⟩, by rw [eqD_int]; simp⟩
  simp only [opIn, seqOf, hp]
  rw [if_pos ⟨rfl, e1⟩, e2]
  simp
theorem min_ok (a b : Int) : (if b < a then b else a) = min a b := by
  rw [Int.min_def]; split <;> split <;> omega
section
variable (k P K : Nat) (B x y : Int) (hold : List Rat) (S : Sta) (ly : Lay) (h0 : Hv) (hP : 1 ≤ P ∧ P ≤ 4) (hK : 1 ≤ K ∧ K ≤ 5)
def ev (P K : Nat) (B x y : Int) (hold : List Rat) (S : Sta) (ly : Lay) (h0 : Hv) (z3 z4 z5 z6 : Option D) (zs : List (Option D)) : Env :=
  some (.ref h0.length) :: some (trD P K B hold x y) :: some (.ref ly.s) :: z3 :: z4 :: z5 :: z6 :: some (.ref ly.L) :: some (shD S.hs) :: some (.ref ly.N) :: zs
theorem trD0 (h : Hv) : opIx (trD P K B hold x y) (.int 0) h = .ok (.int P) h := by simp [trD]
theorem trD1 (h : Hv) : opIx (trD P K B hold x y) (.int 1) h = .ok (.int K) h := by simp [trD]
include hP hK
theorem deed9a {i : Nat} {m way : Int} (hi : i < S.ls.length) (m1 : 1 ≤ m) (m2 : m ≤ (at_ S.ls i).n) (gg : Hv) (pen : List D) (hpn : PenOk pen) (z3 z10 z11 z12 z13 z14 z15 : Option D) (h8 : way = 8) :
    ∃ (d : Dd) (pen' : List D) (e : Hv), Can P K S d ∧ PenOk pen' ∧ LD9 (callK T (k + 3)) (ev P K B x y hold S ly h0 z3 (some (.int way)) (some (.int i)) (some (.int m)) [z10, z11, z12, z13, z14, z15]) (hp h0 pen gg) = .rt d.d (hp h0 pen' (gg ++ e)) := by
  have t0 := trD0 P K B x y hold
  have t1 := trD1 P K B x y hold
  subst h8
  refine ⟨.spoil i m, pen, [], ⟨hi, m1, m2⟩, hpn, ?_⟩
  simp [LD9, LDS9, ev, u_var, Dd.d, spD]
theorem deed9b {i : Nat} {m way : Int} (hi : i < S.ls.length) (m1 : 1 ≤ m) (m2 : m ≤ (at_ S.ls i).n) (gg : Hv) (pen : List D) (hpn : PenOk pen) (z3 z10 z11 z12 z13 z14 z15 : Option D) (h8 : ¬ way = 8) (h9 : way = 9) (hp1 : 1 < P) :
    ∃ (d : Dd) (pen' : List D) (e : Hv), Can P K S d ∧ PenOk pen' ∧ LD9 (callK T (k + 3)) (ev P K B x y hold S ly h0 z3 (some (.int way)) (some (.int i)) (some (.int m)) [z10, z11, z12, z13, z14, z15]) (hp h0 pen gg) = .rt d.d (hp h0 pen' (gg ++ e)) := by
  have t0 := trD0 P K B x y hold
  have t1 := trD1 P K B x y hold
  subst h9
  obtain ⟨r1, p1, a1, b1, hp1', e1⟩ := _law_draw_ok (k + 2) P h0 pen gg (by omega) (by omega) hpn
  obtain ⟨r2, p2, a2, b2, hp2', e2⟩ := _law_draw_ok (k + 2) (P - 1) h0 p1 gg (by omega) (by omega) hp1'
  obtain ⟨q, N, p3, N0, N1, hq, hp3', e3⟩ := _law_share_ok k h0 p2 gg hp2'
  obtain ⟨u, rfl⟩ := Int.eq_ofNat_of_zero_le a1
  obtain ⟨v0, v1, v2⟩ := mod_ne (u := u) (r := r2) (P := P) (by omega) (by omega)
  obtain ⟨v, ev'⟩ := Int.eq_ofNat_of_zero_le v0
  refine ⟨.sell u v q, p3, [], ⟨by omega, by omega, by omega, N, N0, N1, hq⟩, hp3', ?_⟩
  have md : ∀ h, opMod (.int ((u : Int) + 1 + r2)) (.int P) h = .ok (.int v) h := fun h => by rw [mod_ok (by omega), ev']
  have hp1i : (1 : Int) < P := by omega
  simp [LD9, LDS9, LD10, LDS10, ev, u_var, t0, hp1, hp1i, e1, e2, md, e3, Dd.d, slD]
end

theorem if_f {c : EF} {a b : SF} {C : Or} {env : Env} {h : Hv} (e : c C env h = .ok (.bl false) h) : ifS c a b C env h = b C env h := by
  rw [u_if, e, thenS_ok, bm_bl]
  rfl
theorem worths_int (k n : Nat) (m : Int) (hm : m = (n : Nat)) (h0 : Hv) (pen : List D) (g : Hv) (hn1 : n ≤ 1000) (hpn : PenOk pen) :
    ∃ (ws : List Int) (pen' : List D), ws.length = n ∧ (∀ w ∈ ws, 1 ≤ w ∧ w ≤ 99) ∧ PenOk pen' ∧
      callK T (k + 3) "_law_worths" [.ref h0.length, .int m] (hp h0 pen g) = .ok (wsD ws) (hp h0 pen' g) := by
  subst hm
  exact _law_worths_ok k n h0 pen g hn1 hpn
section
variable (k P K : Nat) (B x y : Int) (hold : List Rat) (S : Sta) (ly : Lay) (h0 : Hv) (hP : 1 ≤ P ∧ P ≤ 4) (hK : 1 ≤ K ∧ K ≤ 5)
include hP hK
theorem deed9c {i : Nat} {m way : Int} (hi : i < S.ls.length) (m1 : 1 ≤ m) (m2 : m ≤ (at_ S.ls i).n) (gg : Hv) (pen : List D) (hpn : PenOk pen) (z3 z10 z11 z12 z13 z14 z15 : Option D) (h8 : ¬ way = 8) (h9 : ¬ (way = 9 ∧ 1 < P)) :
    ∃ (d : Dd) (pen' : List D) (e : Hv), Can P K S d ∧ PenOk pen' ∧ LD9 (callK T (k + 3)) (ev P K B x y hold S ly h0 z3 (some (.int way)) (some (.int i)) (some (.int m)) [z10, z11, z12, z13, z14, z15]) (hp h0 pen gg) = .rt d.d (hp h0 pen' (gg ++ e)) := by
  have t0 := trD0 P K B x y hold
  have t1 := trD1 P K B x y hold
  obtain ⟨ws, p1, lw, hw, hp1', e1⟩ := worths_int k (K + 1) ((K : Int) + 1) (by omega) h0 pen gg (by omega) hpn
  obtain ⟨ws', w, rfl⟩ : ∃ ws' w, ws = ws' ++ [w] := by
    have hne : ws ≠ [] := by intro e; rw [e] at lw; simp at lw
    exact ⟨ws.dropLast, ws.getLast hne, (List.dropLast_concat_getLast hne).symm⟩
  refine ⟨.throw i m ws' w, p1, [], ⟨hi, m1, m2, by simpa using lw, fun v hv => hw v (by simp [hv]), hw w (by simp)⟩, hp1', ?_⟩
  have hd : (Dd.throw i m ws' w).d = .tup [.str "throw", .int i, .int m, wsD (ws' ++ [w])] := by simp only [Dd.d, thD]
  rw [hd]
  clear hd
  generalize callK T (k + 3) = C at *
  generalize hE : ev P K B x y hold S ly h0 z3 (some (.int way)) (some (.int i)) (some (.int m)) [z10, z11, z12, z13, z14, z15] = env at *
  have v0 : env[0]? = some (some (.ref h0.length)) := by rw [← hE]; rfl
  have v1 : env[1]? = some (some (trD P K B hold x y)) := by rw [← hE]; rfl
  have v4 : env[4]? = some (some (.int way)) := by rw [← hE]; rfl
  have v5 : env[5]? = some (some (.int i)) := by rw [← hE]; rfl
  have v6 : env[6]? = some (some (.int m)) := by rw [← hE]; rfl
  have e9 : LDS9 C env (hp h0 pen gg) = .nx env (hp h0 pen gg) := by
    unfold LDS9
    rw [if_f (by simp only [u_bin, u_var, v4, bind_ok, u_con, u_eqI, h8, decide_false])]
    rfl
  have e10 : LDS10 C env (hp h0 pen gg) = .nx env (hp h0 pen gg) := by
    unfold LDS10
    rw [if_f ?_]
    · rfl
    · by_cases hw9 : way = 9
      · have hP1 : ¬ (1 : Int) < P := by have := fun h => h9 ⟨hw9, h⟩; omega
        simp only [u_and, u_bin, u_var, v4, v1, bind_ok, u_con, u_eqI, hw9, decide_true, bm_bl, if_true, t0, u_gt, hP1, decide_false]
      · simp only [u_and, u_bin, u_var, v4, bind_ok, u_con, u_eqI, hw9, decide_false, bm_bl]
        rfl
  have e11 : LDS11 C env (hp h0 pen gg) = .rt (.tup [.str "throw", .int i, .int m, wsD (ws' ++ [w])]) (hp h0 p1 gg) := by
    unfold LDS11
    simp only [u_ret, u_tup, u_list, u_list0, u_con, bind_ok, u_var, v0, v1, v5, v6, u_call, u_bin, t1, u_add, e1, List.length_cons, List.length_nil, Nat.reduceAdd, Nat.reduceLeDiff, if_true, thenS_ok]
  rw [List.append_nil]
  simp only [LD9, LD10, LD11, u_seq, e9, e10, e11, nxt_nx, nxt_rt]
end

section
variable (k P K : Nat) (B x y : Int) (hold : List Rat) (S : Sta) (ly : Lay) (h0 : Hv) (hP : 1 ≤ P ∧ P ≤ 4) (hK : 1 ≤ K ∧ K ≤ 5)
include hP hK
theorem deed9 {i : Nat} {m way : Int} (hi : i < S.ls.length) (m1 : 1 ≤ m) (m2 : m ≤ (at_ S.ls i).n) (gg : Hv) (pen : List D) (hpn : PenOk pen) (z3 z10 z11 z12 z13 z14 z15 : Option D) :
    ∃ (d : Dd) (pen' : List D) (e : Hv), Can P K S d ∧ PenOk pen' ∧ LD9 (callK T (k + 3)) (ev P K B x y hold S ly h0 z3 (some (.int way)) (some (.int i)) (some (.int m)) [z10, z11, z12, z13, z14, z15]) (hp h0 pen gg) = .rt d.d (hp h0 pen' (gg ++ e)) := by
  by_cases h8 : way = 8
  · exact deed9a k P K B x y hold S ly h0 hP hK hi m1 m2 gg pen hpn z3 z10 z11 z12 z13 z14 z15 h8
  · by_cases h9 : way = 9 ∧ 1 < P
    · exact deed9b k P K B x y hold S ly h0 hP hK hi m1 m2 gg pen hpn z3 z10 z11 z12 z13 z14 z15 h8 h9.1 h9.2
    · exact deed9c k P K B x y hold S ly h0 hP hK hi m1 m2 gg pen hpn z3 z10 z11 z12 z13 z14 z15 h8 h9
theorem deed8 {i : Nat} {m way : Int} (hi : i < S.ls.length) (hki : (at_ S.ls i).k < K) (m1 : 1 ≤ m) (m2 : m ≤ (at_ S.ls i).n) (gg : Hv) (sa : ∀ pen, SAt (hp h0 pen gg) ly S) (pen : List D) (hpn : PenOk pen) (z3 z10 z11 z12 z13 z14 z15 : Option D) :
    ∃ (d : Dd) (pen' : List D) (e : Hv), Can P K S d ∧ PenOk pen' ∧ LD8 (callK T (k + 3)) (ev P K B x y hold S ly h0 z3 (some (.int way)) (some (.int i)) (some (.int m)) [z10, z11, z12, z13, z14, z15]) (hp h0 pen gg) = .rt d.d (hp h0 pen' (gg ++ e)) := by
  have t0 := trD0 P K B x y hold
  have t1 := trD1 P K B x y hold
  by_cases h8 : way < 8 ∧ 1 < K
  · obtain ⟨w8, hK1⟩ := h8
    have hK1i : (1 : Int) < K := by omega
    obtain ⟨r1, p1, a1, b1, hp1', e1⟩ := _law_draw_ok (k + 2) (K - 1) h0 pen gg (by omega) (by omega) hpn
    obtain ⟨r, hr, mr, hrow⟩ := (sa pen).rowAt hi
    have x1 : opIx (.ref ly.L) (.int i) (hp h0 pen gg) = .ok (.ref r) (hp h0 pen gg) := by rw [ix_ref _ _ _ _ (sa pen).L, at_nat, List.getElem?_map, hr]; rfl
    have i0 := (ix_row hrow).1
    generalize hkk : (at_ S.ls i).k = kk at *
    obtain ⟨v0, v1, v2⟩ := mod_ne (u := kk) (r := r1) (P := K) (by omega) (by omega)
    obtain ⟨v, ev'⟩ := Int.eq_ofNat_of_zero_le v0
    have md : ∀ h, opMod (.int ((kk : Int) + 1 + r1)) (.int K) h = .ok (.int v) h := fun h => by rw [mod_ok (by omega), ev']
    have eL := lc_pure (C := callK T (k + 3)) (env := ev P K B x y hold S ly h0 z3 (some (.int way)) (some (.int i)) (some (.int m)) [z10, some (.int v), z12, z13, z14, z15]) (it := it1F (conF (.int 10))) (tg := nmT 15) (own := [15]) (t := binF (opIn true) (varF 15) (varF 9)) (elt := varF 15)
      (gs := []) (h := hp h0 p1 gg) (h1 := hp h0 p1 gg) (List.range 10) (fun j => .int (j : Nat)) (fun j => decide ((j : Int) ∉ S.nums)) (fun j => .int (j : Nat)) (fun j => ev P K B x y hold S ly h0 z3 (some (.int way)) (some (.int i)) (some (.int m)) [z10, some (.int v), z12, z13, z14, some (.int (j : Nat))])
      (it1_ok (n := 10) rfl (by decide)) (fun _ => rfl) (by intro j hj acc; rfl)
      (by
        intro j hj acc
        have := not_inR (row_old (g := [.lst acc]) (sa p1).N) (j : Int)
        simp only [ev, u_bin, u_var, List.getElem?_cons_succ, List.getElem?_cons_zero, bind_ok, this])
      (by intro j hj hp acc; rfl) (by simp)
    generalize hleft : (List.range 10).filter (fun j : Nat => decide ((j : Int) ∉ S.nums)) = left at *
    have eI : left.map (fun j : Nat => D.int (j : Nat)) = (left.map fun j : Nat => (j : Int)).map .int := by rw [List.map_map]; rfl
    rw [eI, hp_app, hp_len] at eL
    have hmemL : ∀ j ∈ left, ((j : Nat) : Int) ∉ S.nums := fun j hj => by
      rw [← hleft] at hj
      exact of_decide_eq_true (List.mem_filter.1 hj).2
    have l10 : left.length ≤ 10 := by
      rw [← hleft]
      exact Nat.le_trans (List.length_filter_le ..) (by simp)
    clear hleft eI
    have hgm : ∃ ns : List Int, ns = left.map fun j : Nat => (j : Int) := ⟨_, rfl⟩
    obtain ⟨ns, hns⟩ := hgm
    rw [← hns] at eL
    have nl : ns.length = left.length := by rw [hns]; simp
    have hgL : ∀ pen e, (hp h0 pen (gg ++ .lst (ns.map .int) :: e))[h0.length + 1 + gg.length]? = some (.lst (ns.map .int)) := fun pen e => by rw [hp_get1]; simp
    have q1 := eq_nil (p := h0.length + 1 + gg.length) (q := h0.length + 1 + (gg.length + 1)) (ns := ns) (hgL p1 [.lst []]) (by rw [hp_get1]; simp) true
    by_cases h7 : way = 7 ∧ ns ≠ []
    · obtain ⟨rfl, hne⟩ := h7
      have l0 : 0 < ns.length := List.length_pos_iff.2 hne
      obtain ⟨r2, p2, a2, b2, hp2', e2⟩ := _law_draw_ok (k + 2) ns.length h0 p1 (gg ++ [.lst (ns.map .int), .lst []]) (by omega) (by omega) hp1'
      obtain ⟨n, p3, n1, n2, hp3', e3⟩ := _law_pieces_ok (k + 1) h0 p2 (gg ++ [.lst (ns.map .int), .lst []]) hp2'
      obtain ⟨j, rfl⟩ := Int.eq_ofNat_of_zero_le a2
      have hj : j < ns.length := by omega
      have hmem : ns[j] ∉ S.nums := by
        subst hns
        rw [List.getElem_map]
        exact hmemL _ (List.getElem_mem _)
      refine ⟨.trade ns[j] i m v n, p3, [.lst (ns.map .int), .lst []], ⟨hmem, hi, m1, m2, by omega, by omega, n1, n2⟩, hp3', ?_⟩
      have ln := u_lenl (hgL p1 [.lst []])
      have ex : opIx (.ref (h0.length + 1 + gg.length)) (.int j) (hp h0 p2 (gg ++ [.lst (ns.map .int), .lst []])) = .ok (.int ns[j]) (hp h0 p2 (gg ++ [.lst (ns.map .int), .lst []])) := by
        rw [ix_ref _ _ _ _ (hgL p2 [.lst []]), at_nat, List.getElem?_map, List.getElem?_eq_getElem hj]; rfl
      simp only [List.length_map] at ln
      simp only [ev] at eL
      simp [LD8, LDS8, ev, u_var, t1, hK1, hK1i, x1, i0, e1, md, eL, q1, hne, ln, e2, ex, e3, Dd.d, traD]
    · obtain ⟨n, p3, n1, n2, hp3', e3⟩ := _law_pieces_ok (k + 1) h0 p1 (gg ++ [.lst (ns.map .int)]) hp1'
      obtain ⟨n', p3', n1', n2', hp3'', e3'⟩ := _law_pieces_ok (k + 1) h0 p1 (gg ++ [.lst (ns.map .int), .lst []]) hp1'
      simp only [ev] at eL
      by_cases w7 : way = 7
      · have hne : ns = [] := by
          by_cases hz : ns = []
          · exact hz
          · exact (h7 ⟨w7, hz⟩).elim
        subst w7
        refine ⟨.swap i m v n', p3', [.lst (ns.map .int), .lst []], ⟨hi, m1, m2, by omega, by omega, n1', n2'⟩, hp3'', ?_⟩
        clear hns
        subst hne
        simp only [List.map_nil] at eL q1 e3'
        simp [LD8, LDS8, ev, u_var, t1, hK1, hK1i, x1, i0, e1, md, eL, q1, Dd.d, swD, e3']
      · refine ⟨.swap i m v n, p3, [.lst (ns.map .int)], ⟨hi, m1, m2, by omega, by omega, n1, n2⟩, hp3', ?_⟩
        simp [LD8, LDS8, ev, u_var, t1, hK1, hK1i, x1, i0, e1, md, eL, q1, w7, w8, e3, Dd.d, swD]
  · have e8 : LD8 (callK T (k + 3)) (ev P K B x y hold S ly h0 z3 (some (.int way)) (some (.int i)) (some (.int m)) [z10, z11, z12, z13, z14, z15]) (hp h0 pen gg) = LD9 (callK T (k + 3)) (ev P K B x y hold S ly h0 z3 (some (.int way)) (some (.int i)) (some (.int m)) [z10, z11, z12, z13, z14, z15]) (hp h0 pen gg) := by
      show seqS LDS8 LD9 _ _ _ = _
      generalize LD9 = X
      by_cases w8 : way < 8
      · have hK1 : ¬ (1 : Int) < K := fun h => h8 ⟨w8, by omega⟩
        have hK2 : ¬ 1 < K := fun h => h8 ⟨w8, h⟩
        simp [LDS8, ev, u_var, t1, w8, hK1, hK2]
      · simp [LDS8, ev, u_var, t1, w8]
    rw [e8]
    exact deed9 k P K B x y hold S ly h0 hP hK hi m1 m2 gg pen hpn z3 z10 z11 z12 z13 z14 z15
end

theorem ix_list {h : Hv} {p : Nat} {ns : List Int} {j : Nat} (hp : h[p]? = some (.lst (ns.map .int))) (hj : j < ns.length) : opIx (.ref p) (.int j) h = .ok (.int ns[j]) h := by
  rw [ix_ref _ _ _ _ hp, at_nat, List.getElem?_map, List.getElem?_eq_getElem hj]; rfl
theorem SAt.kind {h : Hv} {ly : Lay} {S : Sta} (sa : SAt h ly S) {j : Nat} (hj : j < S.ls.length) : ∃ r, opIx (.ref ly.L) (.int j) h = .ok (.ref r) h ∧ opIx (.ref r) (.int 0) h = .ok (.int (at_ S.ls j).k) h ∧ opIx (.ref r) (.int 1) h = .ok (.int (at_ S.ls j).n) h := by
  obtain ⟨r, hr, mr, hrow⟩ := sa.rowAt hj
  have i := ix_row hrow
  exact ⟨r, by rw [ix_ref _ _ _ _ sa.L, at_nat, List.getElem?_map, hr]; rfl, i.1, i.2.1⟩
section
variable (k P K : Nat) (B x y : Int) (hold : List Rat) (S : Sta) (ly : Lay) (h0 : Hv) (hP : 1 ≤ P ∧ P ≤ 4) (hK : 1 ≤ K ∧ K ≤ 5)
include hP hK
theorem deed7 {i : Nat} {m way : Int} (hi : i < S.ls.length) (hki : (at_ S.ls i).k < K) (m1 : 1 ≤ m) (m2 : m ≤ (at_ S.ls i).n) (gg : Hv) (sa : ∀ pen, SAt (hp h0 pen gg) ly S) (pen : List D) (hpn : PenOk pen) (z10 z11 z12 z13 z14 z15 : Option D)
    {f : Nat} {fl : List Nat} (hf : ∀ pen e, (hp h0 pen (gg ++ e))[f]? = some (.lst ((fl.map fun j : Nat => (j : Int)).map .int))) (hfl : ∀ j ∈ fl, j < S.ls.length ∧ 1 ≤ (at_ S.ls j).n) (fl1 : fl.length ≤ 900) (n1 : 1 ≤ (at_ S.ls i).n) :
    ∃ (d : Dd) (pen' : List D) (e : Hv), Can P K S d ∧ PenOk pen' ∧ LD7 (callK T (k + 3)) (ev P K B x y hold S ly h0 (some (.ref f)) (some (.int way)) (some (.int i)) (some (.int m)) [z10, z11, z12, z13, z14, z15]) (hp h0 pen gg) = .rt d.d (hp h0 pen' (gg ++ e)) := by
  by_cases w5 : way < 5
  · have hL := lc_pure (C := callK T (k + 3)) (env := ev P K B x y hold S ly h0 (some (.ref f)) (some (.int way)) (some (.int i)) (some (.int m)) [z10, z11, z12, z13, z14, z15]) (it := itE (varF 3)) (tg := nmT 14) (own := [14]) (t := andF (binF (opEqD true) (varF 14) (varF 5)) (binF (opEqD false) (binF opIx (binF opIx (varF 7) (varF 14)) (conF (.int 0))) (binF opIx (binF opIx (varF 7) (varF 5)) (conF (.int 0))))) (elt := varF 14)
      (gs := [(f, (fl.map fun j : Nat => (j : Int)).map .int)]) (h := hp h0 pen gg) (h1 := hp h0 pen gg) fl (fun j => .int (j : Nat)) (fun j => !decide ((j : Int) = i) && decide (((at_ S.ls j).k : Int) = (at_ S.ls i).k)) (fun j => .int (j : Nat)) (fun j => ev P K B x y hold S ly h0 (some (.ref f)) (some (.int way)) (some (.int i)) (some (.int m)) [z10, z11, z12, z13, some (.int (j : Nat)), z15])
      (by
        have := hf pen []
        rw [List.append_nil] at this
        rw [itE_l (p := f) rfl this, List.map_map]; rfl)
      (by
        intro acc
        have := hf pen [.lst acc]
        simp only [guardsOk, List.all_cons, List.all_nil, Bool.and_true, hp_app, this]
        simp)
      (by intro j hj acc; rfl)
      (by
        intro j hj acc
        have s2 := sat_ext sa [.lst acc] pen
        rw [hp_app]
        obtain ⟨rj, a1, a2, _⟩ := s2.kind (hfl j hj).1
        obtain ⟨ri, b1, b2, _⟩ := s2.kind hi
        simp only [ev, u_and, u_bin, u_var, List.getElem?_cons_succ, List.getElem?_cons_zero, bind_ok, u_neI, bm_bl, a1, b1, u_con, a2, b2, u_eqI]
        by_cases e : (j : Int) = i <;> simp [e])
      (by intro j hj hp acc; rfl) (by omega)
    generalize hsame : fl.filter (fun j : Nat => !decide ((j : Int) = i) && decide (((at_ S.ls j).k : Int) = (at_ S.ls i).k)) = same at *
    have hm : ∀ j ∈ same, j < S.ls.length ∧ 1 ≤ (at_ S.ls j).n ∧ j ≠ i ∧ (at_ S.ls j).k = (at_ S.ls i).k := fun j hj => by
      rw [← hsame] at hj
      obtain ⟨h1, h2⟩ := List.mem_filter.1 hj
      have := hfl j h1
      simp only [Bool.and_eq_true, Bool.not_eq_true', decide_eq_false_iff_not, decide_eq_true_eq] at h2
      exact ⟨this.1, this.2, by omega, by omega⟩
    have ln2 : same.length ≤ 900 := by
      rw [← hsame]
      exact Nat.le_trans (List.length_filter_le ..) fl1
    clear hsame
    obtain ⟨ns, hns⟩ : ∃ ns : List Int, ns = same.map fun j : Nat => (j : Int) := ⟨_, rfl⟩
    have eI : same.map (fun j : Nat => D.int (j : Nat)) = ns.map .int := by rw [hns, List.map_map]; rfl
    have nl : ns.length = same.length := by rw [hns]; simp
    rw [eI, hp_app, hp_len] at hL
    have hgL : ∀ pen e, (hp h0 pen (gg ++ .lst (ns.map .int) :: e))[h0.length + 1 + gg.length]? = some (.lst (ns.map .int)) := fun pen e => by rw [hp_get1]; simp
    have q1 := eq_nil (p := h0.length + 1 + gg.length) (q := h0.length + 1 + (gg.length + 1)) (ns := ns) (hgL pen [.lst []]) (by rw [hp_get1]; simp) true
    simp only [ev] at hL
    by_cases hne : ns = []
    · have sb := fun pen => sat_ext sa [.lst (ns.map .int), .lst []] pen
      obtain ⟨d, pen', e, c, hp', ed⟩ := deed8 k P K B x y hold S ly h0 hP hK hi hki m1 m2 (gg ++ [.lst (ns.map .int), .lst []]) sb pen hpn (way := way) (some (.ref f)) (some (.ref (h0.length + 1 + gg.length))) z11 z12 z13 z14 z15
      refine ⟨d, pen', [.lst (ns.map .int), .lst []] ++ e, c, hp', ?_⟩
      rw [← List.append_assoc, ← ed]
      show seqS LDS7 LD8 _ _ _ = _
      generalize LD8 = X
      clear hns
      subst hne
      simp only [List.map_nil] at hL q1
      simp [LDS7, ev, u_var, w5, hL, q1]
    · have l0 : 0 < ns.length := List.length_pos_iff.2 hne
      obtain ⟨r2, p2, a2, b2, hp2', e2⟩ := _law_draw_ok (k + 2) ns.length h0 pen (gg ++ [.lst (ns.map .int), .lst []]) (by omega) (by omega) hpn
      obtain ⟨j, rfl⟩ := Int.eq_ofNat_of_zero_le a2
      have hj : j < ns.length := by omega
      obtain ⟨b, eb, hb1, hb2, hb3, hb4⟩ : ∃ b : Nat, ns[j] = (b : Int) ∧ b < S.ls.length ∧ 1 ≤ (at_ S.ls b).n ∧ b ≠ i ∧ (at_ S.ls b).k = (at_ S.ls i).k := by
        subst hns
        exact ⟨same[j]'(by omega), by simp, hm _ (List.getElem_mem _)⟩
      have ex := ix_list (hgL p2 [.lst []]) hj
      rw [eb] at ex
      have ln := u_lenl (hgL pen [.lst []])
      simp only [List.length_map] at ln
      refine ⟨.pool i b, p2, [.lst (ns.map .int), .lst []], ⟨Ne.symm hb3, hi, hb1, n1, hb2, hb4.symm⟩, hp2', ?_⟩
      show seqS LDS7 LD8 _ _ _ = _
      generalize LD8 = X
      simp [LDS7, ev, u_var, w5, hL, q1, hne, ln, e2, ex, Dd.d, poD]
  · obtain ⟨d, pen', e, c, hp', ed⟩ := deed8 k P K B x y hold S ly h0 hP hK hi hki m1 m2 gg sa pen hpn (way := way) (some (.ref f)) z10 z11 z12 z13 z14 z15
    refine ⟨d, pen', e, c, hp', ?_⟩
    rw [← ed]
    show seqS LDS7 LD8 _ _ _ = _
    generalize LD8 = X
    simp [LDS7, ev, u_var, w5]
end

theorem wsD_gr (ns : List Int) : (wsD ns).gr = true := by
  show D.grs _ = true
  induction ns with
  | nil => rfl
  | cons q qs ih => simpa [D.grs, D.gr] using ih
theorem Dd.gr (d : Dd) : d.d.gr = true := by
  cases d <;> simp [Dd.d, brD, poD, swD, traD, spD, thD, slD, D.gr, D.grs, wsD_gr]
theorem enumD_from : ∀ (xs : List D) (n : Nat), enumD n xs = (List.range xs.length).map fun i => .tup [.int ((n + i : Nat) : Int), xs.getD i .non]
  | [], n => by simp [enumD]
  | x :: xs, n => by
    rw [enumD, enumD_from xs (n + 1), List.length_cons, List.range_succ_eq_map, List.map_cons, List.map_map]
    congr 1
    apply List.map_congr_left
    intro i hi
    simp
    omega
theorem enumD_range (xs : List D) : enumD 0 xs = (List.range xs.length).map fun i => .tup [.int (i : Nat), xs.getD i .non] := by
  rw [enumD_from]; simp
theorem itN_l {C : Or} {env : Env} {h : Hv} {a : EF} {p : Nat} {ds : List D} (ha : a C env h = .ok (.ref p) h) (hp : h[p]? = some (.lst ds)) : itN a C env h = .ok ((List.range ds.length).map fun i => .tup [.int (i : Nat), ds.getD i .non], [(p, ds)]) h := by
  simp only [itN, ha, bind_ok, seqOf, hp, enumD_range]
theorem itN_t {C : Or} {env : Env} {h : Hv} {a : EF} {ds : List D} (ha : a C env h = .ok (.tup ds) h) : itN a C env h = .ok ((List.range ds.length).map fun i => .tup [.int (i : Nat), ds.getD i .non], []) h := by
  simp only [itN, ha, bind_ok, seqOf, enumD_range]
theorem getD_mapref (rows : List Nat) (i : Nat) (h : i < rows.length) : (rows.map D.ref).getD i .non = .ref rows[i] := by
  simp [h]
section
variable (k P K : Nat) (B x y : Int) (hold : List Rat) (S : Sta) (ly : Lay) (h0 : Hv) (hP : 1 ≤ P ∧ P ≤ 4) (hK : 1 ≤ K ∧ K ≤ 5)
include hP hK
theorem deed5 {way : Int} (gg : Hv) (sa : ∀ pen, SAt (hp h0 pen gg) ly S) (pen : List D) (hpn : PenOk pen) (z5 z6 z10 z11 z12 z13 z14 z15 : Option D) (hkd : ∀ l ∈ S.ls, l.k < K)
    {f : Nat} {fl : List Nat} (hf : ∀ pen e, (hp h0 pen (gg ++ e))[f]? = some (.lst ((fl.map fun j : Nat => (j : Int)).map .int))) (hfl : ∀ j ∈ fl, j < S.ls.length ∧ 1 ≤ (at_ S.ls j).n) (fl1 : fl.length ≤ 900) (fl0 : fl ≠ []) :
    ∃ (d : Dd) (pen' : List D) (e : Hv), Can P K S d ∧ PenOk pen' ∧ LD5 (callK T (k + 3)) (ev P K B x y hold S ly h0 (some (.ref f)) (some (.int way)) z5 z6 [z10, z11, z12, z13, z14, z15]) (hp h0 pen gg) = .rt d.d (hp h0 pen' (gg ++ e)) := by
  have l0 : 0 < fl.length := List.length_pos_iff.2 fl0
  obtain ⟨r1, p1, a1, b1, hp1, e1⟩ := _law_draw_ok (k + 2) fl.length h0 pen gg (by omega) (by omega) hpn
  obtain ⟨j, rfl⟩ := Int.eq_ofNat_of_zero_le a1
  have hj : j < fl.length := by omega
  have hf0 := fun pen => hf pen []
  simp only [List.append_nil] at hf0
  have ex := ix_list (hf0 p1) (j := j) (by simpa using hj)
  rw [List.getElem_map] at ex
  obtain ⟨hi, hn⟩ := hfl _ (List.getElem_mem hj)
  generalize fl[j] = i at *
  have ln := u_lenl (hf0 pen)
  simp only [List.length_map] at ln
  obtain ⟨r, x1, _, x2⟩ := (sa p1).kind hi
  obtain ⟨r2, p2, a2, b2, hp2, e2⟩ := _law_draw_ok (k + 2) (min (at_ S.ls i).n 2000) h0 p1 gg (by omega) (by omega) hp1
  obtain ⟨d, pen', e, c, hp', ed⟩ := deed7 k P K B x y hold S ly h0 hP hK hi (hkd _ (at_mem hi)) (m := 1 + r2) (by omega) (by omega) gg sa p2 hp2 (way := way) z10 z11 z12 z13 z14 z15 hf hfl fl1 hn
  refine ⟨d, pen', e, c, hp', ?_⟩
  rw [← ed]
  show seqS LDS5 (seqS LDS6 LD7) _ _ _ = _
  generalize LD7 = X
  have mn : ∀ h, bMin [.int (at_ S.ls i).n, .int 2000] h = .ok (.int (min (at_ S.ls i).n 2000)) h := fun h => by rw [u_min, min_ok, Int.min_comm]
  simp [-u_min, LDS5, LDS6, ev, u_var, ln, e1, ex, x1, x2, mn, e2]
theorem _law_deed_ok (M t : Nat) (g : Good P K t M S) (ht : t ≤ 16) (gg : Hv) (sa : ∀ pen, SAt (hp h0 pen gg) ly S) (pen : List D) (hpn : PenOk pen) :
    ∃ (d : Dd) (pen' : List D), Can P K S d ∧ PenOk pen' ∧ callK T (k + 4) "_law_deed" [.ref h0.length, trD P K B hold x y, .ref ly.s] (hp h0 pen gg) = .ok d.d (hp h0 pen' gg) := by
  have gl := g.len
  have sl := (sa pen).len
  have key : ∃ (d : Dd) (pen' : List D) (e : Hv), Can P K S d ∧ PenOk pen' ∧ LD1 (callK T (k + 3)) [some (.ref h0.length), some (trD P K B hold x y), some (.ref ly.s), none, none, none, none, none, none, none, none, none, none, none, none, none] (hp h0 pen gg) = .rt d.d (hp h0 pen' (gg ++ e)) := by
    have hL := lc_pure (C := callK T (k + 3)) (env := ev P K B x y hold S ly h0 none none none none [none, none, none, none, none, none]) (it := itN (varF 7)) (tg := tupT [nmT 14, nmT 5]) (own := [14, 5]) (t := binF opGt (binF opIx (varF 5) (conF (.int 1))) (conF (.int 0))) (elt := varF 14)
      (gs := [(ly.L, ly.rows.map .ref)]) (h := hp h0 pen gg) (h1 := hp h0 pen gg) (List.range ly.rows.length) (fun j => .tup [.int (j : Nat), (ly.rows.map D.ref).getD j .non]) (fun j => decide (0 < (at_ S.ls j).n)) (fun j => .int (j : Nat))
      (fun j => ev P K B x y hold S ly h0 none none (some ((ly.rows.map D.ref).getD j .non)) none [none, none, none, none, some (.int (j : Nat)), none])
      (by rw [itN_l (p := ly.L) rfl (sa pen).L, List.length_map])
      (by
        intro acc
        have := (sat_ext sa [.lst acc] pen).L
        simp only [guardsOk, List.all_cons, List.all_nil, Bool.and_true, hp_app, this]
        simp)
      (by intro j hj acc; rfl)
      (by
        intro j hj acc
        rw [hp_app]
        have hj := List.mem_range.1 hj
        obtain ⟨r, hr, mr, hrow⟩ := (sat_ext sa [.lst acc] pen).rowAt (i := j) (by omega)
        have er : ly.rows[j] = r := by rw [List.getElem?_eq_getElem hj] at hr; exact Option.some.inj hr
        rw [getD_mapref _ _ hj, er]
        have := (ix_row hrow).2.1
        simp only [ev, u_bin, u_var, List.getElem?_cons_succ, List.getElem?_cons_zero, bind_ok, u_con, this, u_gt])
      (by intro j hj hp acc; rfl) (by rw [List.length_range, sl]; omega)
    generalize hfl : (List.range ly.rows.length).filter (fun j : Nat => decide (0 < (at_ S.ls j).n)) = fl at *
    have hm : ∀ j ∈ fl, j < S.ls.length ∧ 1 ≤ (at_ S.ls j).n := fun j hj => by
      rw [← hfl] at hj
      obtain ⟨h1, h2⟩ := List.mem_filter.1 hj
      have := List.mem_range.1 h1
      have := of_decide_eq_true h2
      exact ⟨by omega, by omega⟩
    have fl1 : fl.length ≤ 900 := by
      rw [← hfl]
      refine Nat.le_trans (List.length_filter_le ..) ?_
      rw [List.length_range, sl]; omega
    clear hfl
    obtain ⟨ns, hns⟩ : ∃ ns : List Int, ns = fl.map fun j : Nat => (j : Int) := ⟨_, rfl⟩
    have eI : fl.map (fun j : Nat => D.int (j : Nat)) = ns.map .int := by rw [hns, List.map_map]; rfl
    have nn : ns = [] ↔ fl = [] := by rw [hns]; simp
    rw [eI, hp_app, hp_len] at hL
    obtain ⟨r1, p1, a1, b1, hp1, e1⟩ := _law_draw_ok (k + 2) 12 h0 pen (gg ++ [.lst (ns.map .int)]) (by decide) (by decide) hpn
    have hgL : ∀ pen e, (hp h0 pen (gg ++ .lst (ns.map .int) :: e))[h0.length + 1 + gg.length]? = some (.lst (ns.map .int)) := fun pen e => by rw [hp_get1]; simp
    have q1 := eq_nil (p := h0.length + 1 + gg.length) (q := h0.length + 1 + (gg.length + 1)) (ns := ns) (hgL p1 [.lst []]) (by rw [hp_get1]; simp) false
    have un := fun env => un_state (sa pen) env 7 8 9
    simp only [ev] at hL
    have t0 := trD0 P K B x y hold
    have t1 := trD1 P K B x y hold
    have br : ∀ e, ∃ (d : Dd) (pen' : List D), Can P K S d ∧ PenOk pen' ∧ (tupF [(conF (.str "bring")), (callF "_law_draw" [(varF 0), (binF opIx (varF 1) (conF (.int 0)))]), (callF "_law_draw" [(varF 0), (binF opIx (varF 1) (conF (.int 1)))]), (callF "_law_pieces" [(varF 0)])]) (callK T (k + 3)) (ev P K B x y hold S ly h0 (some (.ref (h0.length + 1 + gg.length))) (some (.int r1)) none none [none, none, none, none, none, none]) (hp h0 p1 e) = .ok d.d (hp h0 pen' e) := by
      intro e
      obtain ⟨r2, p2, a2, b2, hp2, e2⟩ := _law_draw_ok (k + 2) P h0 p1 e (by omega) (by omega) hp1
      obtain ⟨r3, p3, a3, b3, hp3, e3⟩ := _law_draw_ok (k + 2) K h0 p2 e (by omega) (by omega) hp2
      obtain ⟨n, p4, a4, b4, hp4, e4⟩ := _law_pieces_ok (k + 1) h0 p3 e hp3
      obtain ⟨p, rfl⟩ := Int.eq_ofNat_of_zero_le a2
      obtain ⟨q, rfl⟩ := Int.eq_ofNat_of_zero_le a3
      refine ⟨.bring p q n, p4, ⟨by omega, by omega, a4, b4⟩, hp4, ?_⟩
      simp [ev, u_var, t0, t1, e2, e3, e4, Dd.d, brD]
    by_cases w2 : r1 < 2
    · obtain ⟨d, pen', c, hp', e2⟩ := br (gg ++ [.lst (ns.map .int)])
      refine ⟨d, pen', [.lst (ns.map .int)], c, hp', ?_⟩
      show seqS LDS1 (seqS LDS2 (seqS LDS3 (seqS LDS4 LD5))) _ _ _ = _
      generalize LD5 = X
      simp only [ev] at e2
      simp [-u_tup, LDS1, LDS2, LDS3, LDS4, u_var, un, hL, e1, w2, e2]
    · by_cases hne : ns = []
      · obtain ⟨d, pen', c, hp', e2⟩ := br (gg ++ [.lst (ns.map .int), .lst []])
        refine ⟨d, pen', [.lst (ns.map .int), .lst []], c, hp', ?_⟩
        show seqS LDS1 (seqS LDS2 (seqS LDS3 (seqS LDS4 LD5))) _ _ _ = _
        generalize LD5 = X
        simp only [ev] at e2
        clear hns
        subst hne
        simp only [List.map_nil] at hL q1 e1 e2
        simp [-u_tup, LDS1, LDS2, LDS3, LDS4, u_var, un, hL, e1, w2, q1, e2]
      · have sb := fun pen => sat_ext sa [.lst (ns.map .int), .lst []] pen
        have hf : ∀ pen e, (hp h0 pen (gg ++ [.lst (ns.map .int), .lst []] ++ e))[h0.length + 1 + gg.length]? = some (.lst ((fl.map fun j : Nat => (j : Int)).map .int)) := fun pen e => by
          rw [← hns, hp_get1]; simp
        obtain ⟨d, pen', e, c, hp', ed⟩ := deed5 k P K B x y hold S ly h0 hP hK (way := r1) (gg ++ [.lst (ns.map .int), .lst []]) sb p1 hp1 none none none none none none none none g.kd hf hm fl1 (fun e => hne (nn.2 e))
        refine ⟨d, pen', [.lst (ns.map .int), .lst []] ++ e, c, hp', ?_⟩
        rw [← List.append_assoc, ← ed]
        show seqS LDS1 (seqS LDS2 (seqS LDS3 (seqS LDS4 LD5))) _ _ _ = _
        generalize LD5 = X
        simp [-u_tup, LDS1, LDS2, LDS3, LDS4, ev, u_var, un, hL, e1, w2, q1, hne]
  obtain ⟨d, pen', e, c, hp', ed⟩ := key
  refine ⟨d, pen', c, hp', ?_⟩
  rw [callK_eq t__law_deed]
  refine (run_rt rfl (h' := hp h0 pen' (gg ++ e)) ?_).trans (gc_hp ?_ hp'.grs)
  · show F__law_deed _ _ _ = _
    rw [LD_split]
    exact ed
  · exact Dd.gr d
end

def Dd.isThr : Dd → Bool
  | .throw .. => true
  | _ => false
def Dd.w : Dd → Str
  | .bring .. => "bring"
  | .pool .. => "pool"
  | .swap .. => "swap"
  | .trade .. => "trade"
  | .spoil .. => "spoil"
  | .throw .. => "throw"
  | .sell .. => "sell"
theorem Dd.ix0 (d : Dd) (h : Hv) : opIx d.d (.int 0) h = .ok (.str d.w) h := by
  cases d <;> simp [Dd.d, brD, poD, swD, traD, spD, thD, slD, Dd.w]
theorem Dd.wok (d : Dd) : PyData.strOk d.w = true := by
  cases d <;> (simp only [Dd.w]; decide +kernel)
theorem Dd.isw (d : Dd) : (d.w == ("throw" : Str)) = d.isThr := by
  cases d <;> (simp only [Dd.w, Dd.isThr]; decide +kernel)
theorem Dd.neThr (d : Dd) (h : Hv) : opEqD true (.str d.w) (.str "throw") h = .ok (.bl (!d.isThr)) h :=
  eq_strs (v := d.isThr) d.wok (by decide +kernel) d.isw true h
theorem Dd.eqThr (d : Dd) (h : Hv) : opEqD false (.str d.w) (.str "throw") h = .ok (.bl d.isThr) h :=
  eq_strs (v := d.isThr) d.wok (by decide +kernel) d.isw false h
def thr (ds : List Dd) : Nat := (ds.filter Dd.isThr).length
def runS (P : Nat) (B : Int) (s : Sta) (ds : List Dd) : Sta := ds.foldl (after1 P B) s
def Cans (P K : Nat) (B : Int) : Sta → List Dd → Prop
  | _, [] => True
  | s, d :: ds => Can P K s d ∧ Cans P K B (after1 P B s d) ds
theorem cans_app {P K : Nat} {B : Int} : ∀ {s : Sta} {ds es : List Dd}, Cans P K B s (ds ++ es) ↔ Cans P K B s ds ∧ Cans P K B (runS P B s ds) es
  | s, [], es => by simp [Cans, runS]
  | s, d :: ds, es => by
    have := cans_app (P := P) (K := K) (B := B) (s := after1 P B s d) (ds := ds) (es := es)
    simp only [List.cons_append, Cans, this, runS, List.foldl_cons, and_assoc]
theorem runS_app {P : Nat} {B : Int} (s : Sta) (ds es : List Dd) : runS P B s (ds ++ es) = runS P B (runS P B s ds) es := by simp [runS]
theorem goods {P K : Nat} {B : Int} (hB : 1 ≤ B ∧ B ≤ 20) : ∀ (ds : List Dd) {s : Sta} {t M : Nat}, Good P K t M s → t + ds.length ≤ 17 → Cans P K B s ds → ∃ M', Good P K (t + ds.length) M' (runS P B s ds)
  | [], s, t, M, g, _, _ => ⟨M, g⟩
  | d :: ds, s, t, M, g, hl, c => by
    simp only [List.length_cons] at hl
    obtain ⟨M1, g1⟩ := step_good g (by omega) hB c.1
    obtain ⟨M2, g2⟩ := goods hB ds g1 (by omega) c.2
    exact ⟨M2, by rw [List.length_cons, show t + (ds.length + 1) = t + 1 + ds.length by omega]; exact g2⟩
/-! the law's state behind the pen -/
theorem hp_back {h0 : Hv} {pen : List D} {e h' : Hv} (hl : (hp h0 pen e).length ≤ h'.length) (fr : ∀ i, i ≤ h0.length → h'[i]? = (hp h0 pen e)[i]?) : ∃ e', h' = hp h0 pen e' ∧ e.length ≤ e'.length := by
  rw [hp_len] at hl
  refine ⟨h'.drop (h0.length + 1), ?_, by simp; omega⟩
  apply List.ext_getElem?
  intro i
  rcases Nat.lt_trichotomy i h0.length with hi | hi | hi
  · rw [fr i (by omega), hp, hp, List.getElem?_append_left hi, List.getElem?_append_left hi]
  · rw [fr i (by omega), hi, hp_get, hp_get]
  · obtain ⟨k, rfl⟩ : ∃ k, i = h0.length + 1 + k := ⟨i - (h0.length + 1), by omega⟩
    rw [hp_get1, List.getElem?_drop]
theorem sat_pen {h0 : Hv} {pen pen2 : List D} {e : Hv} {ly : Lay} {S : Sta} (lo : ∀ r ∈ ly.refs, h0.length + 1 ≤ r) (a : SAt (hp h0 pen e) ly S) : SAt (hp h0 pen2 e) ly S := by
  refine a.frame fun r hr => ?_
  obtain ⟨k, rfl⟩ : ∃ k, r = h0.length + 1 + k := ⟨r - (h0.length + 1), by have := lo r hr; omega⟩
  rw [hp_get1, hp_get1]
structure LS (h0 : Hv) (b : Nat) (e : Hv) (ly : Lay) (S : Sta) : Prop where
  sat : ∀ pen, SAt (hp h0 pen e) ly S
  lo : ∀ r ∈ ly.refs, h0.length + 1 + b ≤ r
theorem LS.ext {h0 : Hv} {b : Nat} {e : Hv} {ly : Lay} {S : Sta} (l : LS h0 b e ly S) (e2 : Hv) : LS h0 b (e ++ e2) ly S := ⟨fun pen => sat_ext l.sat e2 pen, l.lo⟩
theorem LS.frame {h0 : Hv} {b : Nat} {e e2 : Hv} {ly : Lay} {S : Sta} (l : LS h0 b e ly S) (f : ∀ i, h0.length + 1 + i ∈ ly.refs → e2[i]? = e[i]?) : LS h0 b e2 ly S :=
  ⟨fun pen => (l.sat pen).frame fun r hr => by
    obtain ⟨k, rfl⟩ : ∃ k, r = h0.length + 1 + k := ⟨r - (h0.length + 1), by have := l.lo r hr; omega⟩
    rw [hp_get1, hp_get1, f k hr], l.lo⟩
theorem LS.set {h0 : Hv} {b : Nat} {e : Hv} {ly : Lay} {S : Sta} (l : LS h0 b e ly S) {i : Nat} (hi : h0.length + 1 + i ∉ ly.refs) (o : Ob) : LS h0 b (e.set i o) ly S :=
  l.frame fun j hj => by
    rw [List.getElem?_set_ne]
    rintro rfl
    exact hi hj
theorem do_step (k P K t M : Nat) (B x y : Int) (hold : List Rat) {S : Sta} {ly : Lay} {h0 : Hv} {b : Nat} {e : Hv} (l : LS h0 b e ly S) (g : Good P K t M S) (ht : t ≤ 16) (hP : P ≤ 900) (hB : 1 ≤ B ∧ B ≤ 20) (hb : b ≤ e.length) {d : Dd} (c : Can P K S d) (pen : List D) :
    ∃ e' ly', callK T (k + 7) "_law_do" [trD P K B hold x y, .ref ly.s, d.d] (hp h0 pen e) = .ok .non (hp h0 pen e') ∧ LS h0 b e' ly' (after1 P B S d) ∧ ly'.s = ly.s ∧ e.length ≤ e'.length ∧
      (∀ i, i < e.length → h0.length + 1 + i ∉ ly.refs → e'[i]? = e[i]?) ∧ ∀ r ∈ ly'.refs, r ∈ ly.refs ∨ h0.length + 1 + e.length ≤ r := by
  obtain ⟨h', ly', e1, r⟩ := _law_do_ok k P K t M B x y hold S ly (hp h0 pen e) g ht hP (l.sat pen) hB c
  obtain ⟨e', rfl, le⟩ := hp_back r.len (fun i hi => r.fr i (by simp; omega) (fun hm => by have := l.lo _ hm; omega))
  have lo' : ∀ r ∈ ly'.refs, h0.length + 1 + b ≤ r := fun z hz => by
    rcases r.new z hz with h | h
    · exact l.lo z h
    · rw [hp_len] at h; omega
  refine ⟨e', ly', e1, ⟨fun pen2 => sat_pen (fun z hz => by have := lo' z hz; omega) r.sat, lo'⟩, r.s, le, fun i hi hn => ?_, fun z hz => ?_⟩
  · have := r.fr (h0.length + 1 + i) (by simp; omega) hn
    rwa [hp_get1, hp_get1] at this
  · have := r.new z hz
    rwa [hp_len] at this
theorem begun_step (k : Nat) (P K B x y : Int) (hold : List Rat) (ls : List Ld) (ds : List D) (h0 : Hv) (g : Hv) (hn : ls.length ≤ 900) (pen : List D) :
    ∃ (e : Hv) (ly : Lay), callK T (k + 1) "_law_begun" [bookD (trD P K B hold x y) ls ds] (hp h0 pen g) = .ok (.ref ly.s) (hp h0 pen (g ++ e)) ∧ LS h0 g.length (g ++ e) ly ⟨ls, hold, []⟩ := by
  obtain ⟨e, ly, e1, sa, lo⟩ := _law_begun_ok k P K B x y hold ls ds (hp h0 pen g) hn
  rw [hp_app] at e1 sa
  have lo' : ∀ r ∈ ly.refs, h0.length + 1 + g.length ≤ r := fun z hz => by have := lo z hz; rwa [hp_len] at this
  exact ⟨e, ly, e1, fun pen2 => sat_pen (fun z hz => by have := lo' z hz; omega) sa, lo'⟩

/-! a book, in kinds of its own -/
structure Bk where
  P : Nat
  K : Nat
  B : Int
  x : Int
  y : Int
  hold : List Rat
  ls : List Ld
  ds : List Dd
def Bk.tr (b : Bk) : D := trD b.P b.K b.B b.hold b.x b.y
def Bk.d (b : Bk) : D := bookD b.tr b.ls (b.ds.map Dd.d)
def Bk.s0 (b : Bk) : Sta := ⟨b.ls, b.hold, []⟩
structure BkT (b : Bk) : Prop where
  P : 1 ≤ b.P ∧ b.P ≤ 4
  K : 1 ≤ b.K ∧ b.K ≤ 5
  B : 1 ≤ b.B ∧ b.B ≤ 20
  x : 0 ≤ b.x ∧ b.x ≤ 9
  y : 0 ≤ b.y ∧ b.y ≤ 9
  hold : b.hold.length = b.P ∧ b.hold.sum = 1
  one : ∀ l ∈ b.ls, l.sh.sum = 1
  good : ∃ M, Good b.P b.K 0 M b.s0
structure BkC (n : Nat) (b : Bk) : Prop extends BkT b where
  len : b.ds.length ≤ n
  cans : Cans b.P b.K b.B b.s0 b.ds
structure BkOk (n : Nat) (b : Bk) : Prop extends BkC n b where
  thr : thr b.ds ≤ 3
/-- what is behind so many deeds -/
def Bk.st (b : Bk) (m : Nat) : Sta := runS b.P b.B b.s0 (b.ds.take m)
theorem BkC.mono {n m : Nat} {b : Bk} (c : BkC n b) (h : n ≤ m) : BkC m b := ⟨c.toBkT, Nat.le_trans c.len h, c.cans⟩
theorem BkC.goodAt {n : Nat} {b : Bk} (c : BkC n b) (hn : n ≤ 17) (m : Nat) : ∃ M, Good b.P b.K (min m b.ds.length) M (b.st m) := by
  obtain ⟨M, g⟩ := c.good
  have hc := c.cans
  rw [← List.take_append_drop m b.ds] at hc
  have hl := c.len
  obtain ⟨M', g'⟩ := goods c.B (b.ds.take m) g (by simp; omega) (cans_app.1 hc).1
  rw [List.length_take, Nat.zero_add] at g'
  exact ⟨M', g'⟩
theorem BkC.canAt {n : Nat} {b : Bk} (c : BkC n b) {m : Nat} (hm : m < b.ds.length) : Can b.P b.K (b.st m) b.ds[m] ∧ b.st (m + 1) = after1 b.P b.B (b.st m) b.ds[m] := by
  have hc := c.cans
  rw [← List.take_append_drop m b.ds, List.drop_eq_getElem_cons hm] at hc
  refine ⟨(cans_app.1 hc).2.1, ?_⟩
  rw [Bk.st, List.take_succ_eq_append_getElem hm, runS_app]
  rfl
theorem ds_gr (ds : List Dd) : D.grs (ds.map Dd.d) = true := by
  induction ds with
  | nil => rfl
  | cons d ds ih => simp [D.grs, Dd.gr, ih]
theorem first_good {P K M s : Nat} {ls : List Ld} {hold : List Rat} (f : First P K ls M) (hM : M ≤ 33 ^ 4) (hs : hold.length = P ∧ ∀ q ∈ hold, Sh s q) (s0 : 0 < s) (s1 : s ≤ 33) : Good P K 0 (M * s) ⟨ls, hold, []⟩ := by
  refine ⟨f.len, f.kd, fun l hl => by have := (f.n l hl).1; omega, ?_, fun l hl => ⟨(f.sh l hl).1, fun q hq => (((f.sh l hl).2 q hq).mono (Nat.dvd_mul_right ..)).sq 0⟩, ⟨hs.1, fun q hq => ((hs.2 q hq).mono (Nat.dvd_mul_left ..)).sq 0⟩, by simp, Nat.mul_pos f.M0 s0, ?_⟩
  · have key : ∀ ls : List Ld, (∀ l ∈ ls, l.n ≤ 2 ^ 131) → tot ls ≤ ls.length * 2 ^ 131 := by
      intro ls
      induction ls with
      | nil => simp [tot]
      | cons l ls ih =>
        intro h
        have i := ih (fun l hl => h l (by simp [hl]))
        have := h l (by simp)
        simp only [tot, List.map_cons, List.sum_cons, List.length_cons] at i ⊢
        omega
    have := key ls (fun l hl => by have := (f.n l hl).2; omega)
    have := f.len
    show tot ls ≤ _
    omega
  · have : M * s ≤ 33 ^ 4 * 33 := Nat.mul_le_mul hM s1
    exact Nat.lt_of_le_of_lt this (by decide)
theorem thr_lc (C : Or) (env : Env) (h1 : Hv) (a e : Nat) (ds : List Dd) (p : Nat) (hp : h1[p]? = some (.lst (ds.map Dd.d))) (ha : env[a]? = some (some (.ref p))) (he : e < env.length) (hn : ds.length ≤ 1000) :
    lcF (itE (varF a)) (nmT e) [e] (binF (opEqD false) (binF opIx (varF e) (conF (.int 0))) (conF (.str "throw"))) (varF e) C env h1 = .ok (.ref h1.length) (h1 ++ [.lst ((ds.filter Dd.isThr).map Dd.d)]) := by
  refine lc_pure (gs := [(p, ds.map Dd.d)]) ds Dd.d Dd.isThr Dd.d (fun d => env.set e (some d.d)) (itE_l (by simp only [u_var, ha]) hp) ?_ ?_ ?_ ?_ (by omega)
  · intro acc
    have : (h1 ++ [Ob.lst acc])[p]? = some (.lst (ds.map Dd.d)) := row_old hp
    simp only [guardsOk, List.all_cons, List.all_nil, Bool.and_true, this]
    simp
  · intro d hd acc
    simp [wipeD, he]
  · intro d hd acc
    have : (env.set e (some d.d))[e]? = some (some d.d) := List.getElem?_set_self he
    simp only [u_bin, u_var, this, bind_ok, u_con, d.ix0, d.eqThr]
  · intro d hd _ acc
    have : (env.set e (some d.d))[e]? = some (some d.d) := List.getElem?_set_self he
    simp only [u_var, this]
theorem _law_book_ok (k n : Nat) (h0 : Hv) (pen : List D) (g : Hv) (hn : n ≤ 16) (hpn : PenOk pen) :
    ∃ (b : Bk) (pen' : List D), BkOk n b ∧ PenOk pen' ∧ callK T (k + 8) "_law_book" [.ref h0.length, .int n] (hp h0 pen g) = .ok b.d (hp h0 pen' g) := by
  obtain ⟨P, K, B, x, y, hold, s, p1, P1, P2, K1, K2, B1, B2, x1, x2, y1, y2, s0, s1, lh, hh, sh, hp1, e1⟩ := _law_train_ok (k + 3) h0 pen g hpn
  obtain ⟨ls, M, p2, hf, hM, hp2, e2⟩ := _law_first_ok (k + 3) P K B x y hold h0 p1 g ⟨P1, P2⟩ ⟨K1, K2⟩ hp1
  obtain ⟨e, ly, e3, l0⟩ := begun_step (k + 6) P K B x y hold ls [] h0 g (by have := hf.len; omega) p2
  have bk : bookD (trD P K B hold x y) ls [] = .tup [trD P K B hold x y, lsD ls, .tup []] := rfl
  rw [bk] at e3
  have g0 := first_good hf hM ⟨lh, hh⟩ s0 s1
  obtain ⟨r1, p3, a1, b1, hp3, e4⟩ := _law_draw_ok (k + 6) (n + 1) h0 p2 (g ++ e ++ [.lst []]) (by omega) (by omega) hp2
  obtain ⟨m, rfl⟩ := Int.eq_ofNat_of_zero_le a1
  have hw := _law_deed_ok (k + 3) P K B x y hold
  generalize htr : trD P K B hold x y = tr at *
  have l1 := l0.ext [.lst []]
  have dpn : h0.length + 1 + (g ++ e).length ∉ ly.refs := fun hm => by
    have := (l0.sat p3).lt _ hm
    simp at this
  let dp := h0.length + 1 + (g ++ e).length
  have hdp : (hp h0 p3 (g ++ e ++ [.lst []]))[dp]? = some (.lst []) := by
    show (hp h0 p3 _)[h0.length + 1 + (g ++ e).length]? = _
    rw [hp_get1]
    simp
  obtain ⟨env', h', e5, S, ly', ds, pen', E, M', z4, z7, c1, c2, c3, c4, c5, c6, c7, rfl, rfl⟩ := for_inv (C := callK T (k + 7)) (tg := nmT 4) (body := (seqS (asgS (nmT 7) (callF "_law_deed" [(varF 0), (varF 2), (varF 5)])) (seqS (ifS (orF (binF (opEqD true) (binF opIx (varF 7) (conF (.int 0))) (conF (.str "throw"))) (binF opLt (bltF bLen [(lcF (itE (varF 6)) (nmT 8) [8] (binF (opEqD false) (binF opIx (varF 8) (conF (.int 0))) (conF (.str "throw"))) (varF 8))]) (conF (.int 3)))) (seqS (expS (callF "_law_do" [(varF 2), (varF 5), (varF 7)])) (seqS (expS (methF mAppend (varF 6) [(varF 7)])) nxS)) nxS) nxS))) (gs := [])
    (P := fun xs env h1 => ∃ (S : Sta) (ly' : Lay) (ds : List Dd) (pen' : List D) (E : Hv) (M' : Nat) (z4 z7 : Option D), ds.length + xs.length ≤ n ∧ Cans P K B ⟨ls, hold, []⟩ ds ∧ S = runS P B ⟨ls, hold, []⟩ ds ∧ thr ds ≤ 3 ∧ PenOk pen' ∧ ly'.s = ly.s ∧
      (LS h0 g.length (g ++ E) ly' S ∧ (g ++ E)[(g ++ e).length]? = some (.lst (ds.map Dd.d)) ∧ dp ∉ ly'.refs ∧ Good P K ds.length M' S) ∧ env = [some (.ref h0.length), some (.int n), some tr, some (lsD ls), z4, some (.ref ly.s), some (.ref dp), z7, none] ∧ h1 = hp h0 pen' (g ++ E))
    (fun _ _ _ _ => rfl)
    (by
      rintro xx xs env h1 ⟨S, ly', ds, pen', E, M', z4, z7, c1, c2, c3, c4, c5, c6, ⟨c7, c8, c9, c10⟩, rfl, rfl⟩
      simp only [List.length_cons] at c1
      refine ⟨_, rfl, ?_⟩
      obtain ⟨d, pd, cd, hpd, ed⟩ := hw S ly' h0 ⟨P1, P2⟩ ⟨K1, K2⟩ M' ds.length c10 (by omega) (g ++ E) c7.sat pen' c5
      rw [c6] at ed
      have lE : (g ++ e).length < (g ++ E).length := (List.getElem?_eq_some_iff.1 c8).1
      have hds : ∀ pen e2, (hp h0 pen (g ++ E ++ e2))[dp]? = some (.lst (ds.map Dd.d)) := fun pen e2 => by
        show (hp h0 pen _)[h0.length + 1 + (g ++ e).length]? = _
        rw [hp_get1, List.getElem?_append_left lE, c8]
      have lc := thr_lc (callK T (k + 7)) [some (.ref h0.length), some (.int n), some tr, some (lsD ls), some xx, some (.ref ly.s), some (.ref dp), some d.d, none] (hp h0 pd (g ++ E)) 6 8 ds dp (by have := hds pd []; rwa [List.append_nil] at this) rfl (by simp) (by omega)
      rw [hp_app] at lc
      have ln := u_lenl (p := (hp h0 pd (g ++ E)).length) (ds := (ds.filter Dd.isThr).map Dd.d) (h := hp h0 pd (g ++ E ++ [.lst ((ds.filter Dd.isThr).map Dd.d)])) (by rw [← hp_app]; exact last_at _ _)
      have lt : ((ds.filter Dd.isThr).map Dd.d).length = thr ds := by simp [thr]
      rw [lt] at ln
      by_cases keep : d.isThr = false ∨ thr ds < 3
      · -- it is done
        have hk : ∃ e2 : Hv, ifS (orF (binF (opEqD true) (binF opIx (varF 7) (conF (.int 0))) (conF (.str "throw"))) (binF opLt (bltF bLen [(lcF (itE (varF 6)) (nmT 8) [8] (binF (opEqD false) (binF opIx (varF 8) (conF (.int 0))) (conF (.str "throw"))) (varF 8))]) (conF (.int 3)))) (seqS (expS (callF "_law_do" [(varF 2), (varF 5), (varF 7)])) (seqS (expS (methF mAppend (varF 6) [(varF 7)])) nxS)) nxS (callK T (k + 7)) [some (.ref h0.length), some (.int n), some tr, some (lsD ls), some xx, some (.ref ly.s), some (.ref dp), some d.d, none] (hp h0 pd (g ++ E)) =
            seqS (expS (callF "_law_do" [(varF 2), (varF 5), (varF 7)])) (seqS (expS (methF mAppend (varF 6) [(varF 7)])) nxS) (callK T (k + 7)) [some (.ref h0.length), some (.int n), some tr, some (lsD ls), some xx, some (.ref ly.s), some (.ref dp), some d.d, none] (hp h0 pd (g ++ (E ++ e2))) := by
          generalize (seqS (expS (callF "_law_do" [(varF 2), (varF 5), (varF 7)])) (seqS (expS (methF mAppend (varF 6) [(varF 7)])) nxS)) = X
          cases ht : d.isThr with
          | false =>
            refine ⟨[], ?_⟩
            simp [u_var, d.ix0, d.neThr, ht]
          | true =>
            have h3 : thr ds < 3 := by simpa [ht] using keep
            have h3' : (thr ds : Int) < 3 := by omega
            refine ⟨[.lst ((ds.filter Dd.isThr).map Dd.d)], ?_⟩
            rw [u_if, u_or]
            simp only [u_bin, u_var, List.getElem?_cons_succ, List.getElem?_cons_zero, bind_ok, u_con, d.ix0, d.neThr, ht, Bool.not_true, bm_bl, u_blt, u_list, u_list0, lc, ln, u_lt, h3', decide_true, thenS_ok, if_true]
            simp
        obtain ⟨e2, hk⟩ := hk
        have c7' := c7.ext e2
        obtain ⟨e4', ly2, q1, q2, q3, q4, q5, q6⟩ := do_step k P K ds.length M' B x y hold c7' c10 (by omega) (by omega) ⟨B1, B2⟩ (by simp) cd pd
        rw [htr, c6] at q1
        obtain ⟨E2, rfl⟩ : ∃ E2, e4' = g ++ E2 := by
          refine ⟨e4'.drop g.length, ?_⟩
          have h1 : e4'.take g.length = g := by
            apply List.ext_getElem?
            intro i
            by_cases hi : i < g.length
            · rw [List.getElem?_take_of_lt hi, q5 i (by simp; omega) (fun hm => by have := c7'.lo _ hm; omega), List.append_assoc, List.getElem?_append_left hi]
            · rw [List.getElem?_eq_none (by simp; omega), List.getElem?_eq_none (by omega)]
          calc e4' = e4'.take g.length ++ e4'.drop g.length := (List.take_append_drop ..).symm
            _ = _ := by rw [h1]
        have q7 : (g ++ E2)[(g ++ e).length]? = some (.lst (ds.map Dd.d)) := by
          rw [q5 _ (by have := lE; simp only [List.length_append] at this ⊢; omega) c9, List.getElem?_append_left lE, c8]
        have dn2 : dp ∉ ly2.refs := fun hm => by
          rcases q6 _ hm with h | h
          · exact c9 h
          · have : dp = h0.length + 1 + (g ++ e).length := rfl
            rw [List.length_append (bs := e2)] at h
            omega
        obtain ⟨M2, g2⟩ := step_good c10 (by omega) ⟨B1, B2⟩ cd
        refine ⟨[some (.ref h0.length), some (.int n), some tr, some (lsD ls), some xx, some (.ref ly.s), some (.ref dp), some d.d, none], hp h0 pd ((g ++ E2).set (g ++ e).length (.lst ((ds ++ [d]).map Dd.d))), ?_, after1 P B S d, ly2, ds ++ [d], pd, (g ++ E2).drop g.length |>.set e.length (.lst ((ds ++ [d]).map Dd.d)), M2, some xx, some d.d, by simp; omega, cans_app.2 ⟨c2, ⟨by rw [← c3]; exact cd, trivial⟩⟩, ?_, ?_, hpd, by rw [q3, c6], ⟨?_, ?_, dn2, ?_⟩, rfl, ?_⟩
        · have il : isLst (.ref dp) (hp h0 pd (g ++ E2)) = true := isl_of (L := dp) (o := .lst (ds.map Dd.d)) (by show (hp h0 pd _)[h0.length + 1 + (g ++ e).length]? = _; rw [hp_get1, q7])
          have ap : mAppend (.ref dp) [d.d] (hp h0 pd (g ++ E2)) = .ok .non (hp h0 pd ((g ++ E2).set (g ++ e).length (.lst ((ds ++ [d]).map Dd.d)))) := by
            rw [app_ref (L := dp) (ds := ds.map Dd.d) (by show (hp h0 pd _)[h0.length + 1 + (g ++ e).length]? = _; rw [hp_get1, q7]) (by simp; omega)]
            show R.ok _ ((hp h0 pd _).set (h0.length + 1 + (g ++ e).length) _) = _
            rw [hp_set1]
            simp
          rw [List.append_assoc] at q1
          rw [u_seq, u_asg, u_call]
          simp only [List.set_cons_succ, List.set_cons_zero, u_list, u_list0, u_var, List.getElem?_cons_succ, List.getElem?_cons_zero, bind_ok, ed, thenS_ok, u_nm, List.length_cons, List.length_nil, Nat.reduceAdd, Nat.reduceLT, if_true, om_some, nxt_nx]
          rw [u_seq, hk]
          simp only [u_seq, u_exp, u_call, u_list, u_list0, u_var, List.getElem?_cons_succ, List.getElem?_cons_zero, bind_ok, q1, thenS_ok, nxt_nx, methF, il, if_true, ap, u_nx]
        · rw [c3, runS_app]; rfl
        · have : thr (ds ++ [d]) = thr ds + (if d.isThr then 1 else 0) := by
            simp only [thr, List.filter_append, List.length_append]
            cases h : d.isThr <;> simp [List.filter_cons, h]
          rcases keep with h | h
          · rw [this, h]; simpa using c4
          · rw [this]; split <;> omega
        · rw [List.drop_left]
          have := q2.set (i := (g ++ e).length) dn2 (.lst ((ds ++ [d]).map Dd.d))
          rw [List.length_append, List.set_append_right _ _ (by omega)] at this
          simpa using this
        · rw [List.drop_left, List.length_append, List.getElem?_append_right (by omega), show g.length + e.length - g.length = e.length by omega]
          refine List.getElem?_set_self ?_
          have := (List.getElem?_eq_some_iff.1 q7).1
          simp at this
          exact this
        · rw [List.length_append]; exact g2
        · rw [List.drop_left, List.length_append, List.set_append_right _ _ (by omega)]
          simp
      · have ht : d.isThr = true := by
          cases h : d.isThr with
          | true => rfl
          | false => exact (keep (.inl h)).elim
        have h3 : ¬ thr ds < 3 := fun h => keep (.inr h)
        have h3' : ¬ (thr ds : Int) < 3 := by omega
        refine ⟨[some (.ref h0.length), some (.int n), some tr, some (lsD ls), some xx, some (.ref ly.s), some (.ref dp), some d.d, none], hp h0 pd (g ++ (E ++ [.lst ((ds.filter Dd.isThr).map Dd.d)])), ?_, S, ly', ds, pd, E ++ [.lst ((ds.filter Dd.isThr).map Dd.d)], M', some xx, some d.d, by omega, c2, c3, c4, hpd, c6, ⟨?_, ?_, c9, c10⟩, rfl, rfl⟩
        · rw [u_seq, u_asg, u_call]
          simp only [List.set_cons_succ, List.set_cons_zero, u_list, u_list0, u_var, List.getElem?_cons_succ, List.getElem?_cons_zero, bind_ok, ed, thenS_ok, u_nm, List.length_cons, List.length_nil, Nat.reduceAdd, Nat.reduceLT, if_true, om_some, nxt_nx]
          rw [u_seq, u_if, u_or]
          simp only [u_bin, u_var, List.getElem?_cons_succ, List.getElem?_cons_zero, bind_ok, u_con, d.ix0, d.neThr, ht, Bool.not_true, bm_bl, u_blt, u_list, u_list0, lc, ln, u_lt, h3', decide_false, thenS_ok]
          simp
        · rw [← List.append_assoc]; exact c7.ext _
        · rw [← List.append_assoc, List.getElem?_append_left lE, c8])
    ((List.range m).map fun i => .int (i : Nat)) [some (.ref h0.length), some (.int n), some tr, some (lsD ls), none, some (.ref ly.s), some (.ref dp), none, none] (hp h0 p3 (g ++ e ++ [.lst []]))
    ⟨⟨ls, hold, []⟩, ly, [], p3, e ++ [.lst []], M * s, none, none, by simp; omega, trivial, rfl, by simp [thr], hp3, rfl, ⟨by rw [← List.append_assoc]; exact l1, by rw [← List.append_assoc]; simp, dpn, g0⟩, rfl, by rw [List.append_assoc]⟩
  refine ⟨⟨P, K, B, x, y, hold, ls, ds⟩, pen', ⟨⟨⟨⟨P1, P2⟩, ⟨K1, K2⟩, ⟨B1, B2⟩, ⟨x1, x2⟩, ⟨y1, y2⟩, ⟨lh, sh⟩, hf.one, _, g0⟩, by simpa using c1, c2⟩, c4⟩, c5, ?_⟩
  have gr : (bookD tr ls (ds.map Dd.d)).gr = true := by
    have : D.grs (ds.map Dd.d) = true := ds_gr ds
    have t : tr.gr = true := by rw [← htr]; simp [trD, D.gr, D.grs, shD_gr]
    simp [bookD, D.gr, D.grs, lsD_gr, this, t]
  show _ = R.ok (bookD (trD P K B hold x y) ls (ds.map Dd.d)) _
  rw [htr, callK_eq t__law_book]
  refine (run_rt rfl (h' := hp h0 pen' (g ++ E)) ?_).trans (gc_hp gr c5.grs)
  have hit : it1F (callF "_law_draw" [(varF 0), (binF opAdd (varF 1) (conF (.int 1)))]) (callK T (k + 7)) [some (.ref h0.length), some (.int n), some tr, some (lsD ls), none, some (.ref ly.s), some (.ref dp), none, none] (hp h0 p2 (g ++ e ++ [.lst []])) = .ok ((List.range m).map fun i => .int (i : Nat), []) (hp h0 p3 (g ++ e ++ [.lst []])) := by
    refine it1_ok (n := m) ?_ (by omega)
    simp only [u_call, u_list, u_list0, u_var, List.getElem?_cons_succ, List.getElem?_cons_zero, bind_ok, u_bin, u_con, u_add, e4]
  have et := u_tuplel (p := dp) (ds := ds.map Dd.d) (h := hp h0 pen' (g ++ E)) (by show (hp h0 pen' _)[h0.length + 1 + (g ++ e).length]? = _; rw [hp_get1, c7.2.1])
  have hdl : dp = h0.length + 1 + (g ++ e).length := rfl
  clear_value dp
  simp only [R__law_book, F__law_book, List.map_cons, List.map_nil, List.replicate, List.cons_append, List.nil_append, Nat.reduceSub]
  rw [u_seq, u_asg, u_call]
  simp only [u_list, u_list0, u_var, List.getElem?_cons_succ, List.getElem?_cons_zero, bind_ok, e1, thenS_ok, u_nm, List.length_cons, List.length_nil, Nat.reduceAdd, Nat.reduceLT, if_true, om_some, nxt_nx, List.set_cons_succ, List.set_cons_zero]
  rw [u_seq, u_asg, u_call]
  simp only [u_list, u_list0, u_var, List.getElem?_cons_succ, List.getElem?_cons_zero, bind_ok, e2, thenS_ok, u_nm, List.length_cons, List.length_nil, Nat.reduceAdd, Nat.reduceLT, if_true, om_some, nxt_nx, List.set_cons_succ, List.set_cons_zero]
  rw [u_seq, u_par, u_call]
  simp only [u_tup, u_lst, u_list, u_list0, u_var, List.getElem?_cons_succ, List.getElem?_cons_zero, bind_ok, e3, thenS_ok, u_nm, List.length_cons, List.length_nil, Nat.reduceAdd, Nat.reduceLT, Nat.reduceLeDiff, if_true, om_some, nxt_nx, List.set_cons_succ, List.set_cons_zero, hp_len, hp_app, and_self, Nat.zero_le]
  rw [← hdl, u_seq, u_for, hit]
  simp only [thenI_ok, e5, nxt_nx]
  simp [u_var, et, bookD]

/-! the law's states, one behind another -/
/-- the list of the states -/
structure StatesAt (h : Hv) (b : Bk) (sp : Nat) (f : Nat → Nat) (j : Nat) : Prop where
  top : h[sp]? = some (.lst ((List.range (j + 1)).map fun m => .tup [.ref (f m), shD (b.st m).hs]))
  row : ∀ m, m ≤ j → h[f m]? = some (.lst ((b.st m).ls.map ldD))

/-! the program over a book of ours -/
theorem run_from {P K : Nat} {B x y : Int} {hold : List Rat} (hB : 1 ≤ B ∧ B ≤ 20) (hP : P ≤ 900) : ∀ (ds : List Dd) (s : Sta) (t M : Nat), Good P K t M s → t + ds.length ≤ 17 → Cans P K B s ds →
    ∃ sts, Run (trD P K B hold x y) s.d (ds.map Dd.d) sts ∧ ∀ m, m ≤ ds.length → fin s.d (sts.take m) = (runS P B s (ds.take m)).d
  | [], s, t, M, g, _, _ => ⟨[], .nil _, fun m hm => by simp [fin, runS]⟩
  | d :: ds, s, t, M, g, hl, c => by
    simp only [List.length_cons] at hl
    obtain ⟨M1, g1⟩ := step_good g (by omega) hB c.1
    obtain ⟨sts, r, f⟩ := run_from hB hP ds _ _ M1 g1 (by omega) c.2
    refine ⟨(after1 P B s d).d :: sts, .cons (step_ok g (by omega) hB hP c.1 hold x y) r, fun m hm => ?_⟩
    cases m with
    | zero => simp [fin, runS]
    | succ m =>
      have := f m (by simpa using hm)
      simpa [fin, runS] using this
section
variable {n : Nat} {b : Bk} (c : BkC n b) (hn : n ≤ 17)
include c hn
theorem BkC.run : ∃ sts, Run b.tr (stD b.ls b.hold []) (b.ds.map Dd.d) sts ∧ ∀ m, m ≤ b.ds.length → fin (stD b.ls b.hold []) (sts.take m) = (b.st m).d := by
  obtain ⟨M, g⟩ := c.good
  have hl := c.len
  exact run_from c.B (by have := c.P; omega) b.ds b.s0 0 M g (by omega) c.cans
theorem p_after (k m : Nat) (hm : m ≤ b.ds.length) (h : Hv) : callK T (k + 9) "after" [b.d, .int m] h = .ok (b.st m).d h := by
  obtain ⟨sts, r, f⟩ := c.run hn
  rw [← f m hm]
  exact after_ok k r m (by simpa using hm) h
theorem p_need_done (k : Nat) (h : Hv) : callK T (k + 10) "need_done" [b.d] h = .ok .non h := by
  obtain ⟨sts, r, f⟩ := c.run hn
  exact need_done_ok k r h
omit c hn in
theorem p_need_many (k m : Nat) (hm : m ≤ b.ds.length) (h : Hv) : callK T (k + 10) "need_many" [b.d, .int m] h = .ok .non h :=
  need_many_ok k m (by simpa using hm) h
theorem p_loads_in (k m : Nat) (hm : m ≤ b.ds.length) (h : Hv) : callK T (k + 10) "loads_in" [b.d, .int m] h = .ok (lsD (b.st m).ls) h := by
  have a := p_after c hn k m hm h
  rw [callK_eq t_loads_in]
  refine (run_rt rfl ?_).trans gc_same
  simp [u_var, R_loads_in, F_loads_in, a, Sta.d, stD]
end
/-! == of lists of what has no list within -/
mutual
/-- what can be compared: no list, its texts are texts -/
def D.fl : Nat → D → Bool
  | _, .non => true
  | _, .bl _ => true
  | _, .int _ => true
  | _, .str s => PyData.strOk s
  | n + 1, .tup ds => D.fls n ds
  | 0, .tup _ => false
  | _, .ref _ => false
def D.fls : Nat → List D → Bool
  | _, [] => true
  | n, d :: ds => D.fl n d && D.fls n ds
end
mutual
def D.pd : D → PyData
  | .non => .none
  | .bl b => .bool b
  | .int i => .int i
  | .str s => .str s
  | .tup ds => .tuple (D.pds ds)
  | .ref _ => .none
def D.pds : List D → List PyData
  | [] => []
  | d :: ds => D.pd d :: D.pds ds
end
mutual
theorem toP_fl (h : Hv) : ∀ (n : Nat) (d : D), D.fl n d = true → toP h n d = some d.pd
  | n, .non, _ => by cases n <;> simp [toP, D.pd]
  | n, .bl _, _ => by cases n <;> simp [toP, D.pd]
  | n, .int _, _ => by cases n <;> simp [toP, D.pd]
  | n, .str s, e => by cases n <;> (simp only [D.fl] at e; simp [toP, D.pd, e])
  | n + 1, .tup ds, e => by
    simp only [D.fl] at e
    simp only [toP, toPs_fl h n ds e, D.pd, Option.map_some]
  | 0, .tup ds, e => by simp [D.fl] at e
  | n, .ref _, e => by cases n <;> simp [D.fl] at e
theorem toPs_fl (h : Hv) : ∀ (n : Nat) (ds : List D), D.fls n ds = true → toPs h n ds = some (D.pds ds)
  | _, [], _ => by simp [toPs, D.pds]
  | n, d :: ds, e => by
    simp only [D.fls, Bool.and_eq_true] at e
    simp only [toPs, toP_fl h n d e.1, toPs_fl h n ds e.2, D.pds]
end
/-- what is equal by == of such things -/
theorem eq_fl (x : D) (h : Hv) (hx : D.fl 60 x = true) (neg : Bool) : opEqD neg x x h = .ok (.bl (!neg)) h := by
  have e := toP_fl h 60 x hx
  have s := toP_self 60 x _ e
  simp only [opEqD, e, s]
  cases neg <;> rfl
theorem eq_lists {p q : Nat} {ds : List D} {h : Hv} (hp : h[p]? = some (.lst ds)) (hq : h[q]? = some (.lst ds)) (hf : D.fls 59 ds = true) (neg : Bool) : opEqD neg (.ref p) (.ref q) h = .ok (.bl (!neg)) h := by
  have e := toPs_fl h 59 ds hf
  have e1 : toP h 60 (.ref p) = some (.list (D.pds ds)) := by simp only [toP, hp, e, Option.map_some]
  have e2 : toP h 60 (.ref q) = some (.list (D.pds ds)) := by simp only [toP, hq, e, Option.map_some]
  have s := toP_self 60 _ _ e1
  simp only [opEqD, e1, e2, s]
  cases neg <;> rfl
theorem fls_map {α : Type} (n : Nat) (f : α → D) (hf : ∀ a, D.fl n (f a) = true) (as : List α) : D.fls n (as.map f) = true := by
  induction as with
  | nil => rfl
  | cons a as ih => simp [D.fls, hf a, ih]
theorem fl_am (n : Nat) (q : Rat) : D.fl (n + 1) (am q) = true := by simp [am, D.fl, D.fls]
theorem fl_sh (n : Nat) (qs : List Rat) : D.fl (n + 2) (shD qs) = true := by
  simp only [shD, D.fl]
  exact fls_map _ _ (fl_am n) qs

/-! loops, by number -/
theorem for_range {C : Or} {tg : TF} {body : SF} {gs : Guards} (f : Nat → D) (I : Nat → Env → Hv → Prop) : ∀ (n : Nat) (j : Nat)
    (hg : ∀ i env h, I i env h → guardsOk gs h = true)
    (hs : ∀ i env h, i < j + n → I i env h → ∃ env1, tg (f i) env h = some env1 ∧ ∃ env2 h2, body C env1 h = .nx env2 h2 ∧ I (i + 1) env2 h2)
    (env : Env) (h : Hv), I j env h → ∃ env' h', forL C tg body gs ((List.range' j n).map f) env h = .nx env' h' ∧ I (j + n) env' h'
  | 0, j, hg, hs, env, h, p => ⟨env, h, by simp [forL, hg _ _ _ p], p⟩
  | n + 1, j, hg, hs, env, h, p => by
    obtain ⟨env1, e1, env2, h2, e2, p2⟩ := hs j env h (by omega) p
    obtain ⟨env', h', e3, p3⟩ := for_range f I n (j + 1) hg (fun i env h hi => hs i env h (by omega)) env2 h2 p2
    refine ⟨env', h', ?_, by rw [show j + (n + 1) = j + 1 + n by omega]; exact p3⟩
    rw [List.range'_succ, List.map_cons, forL, if_pos (hg _ _ _ p)]
    simp only [e1, e2, e3]
theorem for_upto {C : Or} {tg : TF} {body : SF} {gs : Guards} (f : Nat → D) (I : Nat → Env → Hv → Prop) (n : Nat)
    (hg : ∀ i env h, I i env h → guardsOk gs h = true)
    (hs : ∀ i env h, i < n → I i env h → ∃ env1, tg (f i) env h = some env1 ∧ ∃ env2 h2, body C env1 h = .nx env2 h2 ∧ I (i + 1) env2 h2)
    (env : Env) (h : Hv) (p : I 0 env h) : ∃ env' h', forL C tg body gs ((List.range n).map f) env h = .nx env' h' ∧ I n env' h' := by
  have := for_range (C := C) f I n 0 hg (by simpa using hs) env h p
  rwa [← List.range_eq_range', Nat.zero_add] at this
/-- a law's own loop over its cells: nothing is carried from one to the next -/
theorem law_cells {C : Or} {body : SF} {m : Nat} {ns : List Int} {mx : Int} (hm1 : 1 ≤ mx) (hm2 : mx ≤ 1000)
    (hb : ∀ (i : Nat) (zs : List (Option D)) (h : Hv), zs.length = m → h[0]? = some (.ro (ns.map .int)) → ∃ (zs' : List (Option D)) (h' : Hv), zs'.length = m ∧ body C (some (.ref 0) :: some (.int (i : Nat)) :: zs) h = .nx (some (.ref 0) :: some (.int (i : Nat)) :: zs') h' ∧ h'[0]? = some (.ro (ns.map .int)))
    (zs : List (Option D)) (h : Hv) (hz : zs.length = m) (h0 : h[0]? = some (.ro (ns.map .int))) :
    ∃ env' h', forS (it1F (bltF bMax [(conF (.int 1)), (bltF bMin [(bltF bLen [(varF 0)]), (conF (.int mx))])])) (nmT 1) body C (some (.ref 0) :: none :: zs) h = .nx env' h' := by
  obtain ⟨q, eq, q1⟩ : ∃ q : Nat, (if (if mx < (ns.length : Int) then mx else (ns.length : Int)) > 1 then (if mx < (ns.length : Int) then mx else (ns.length : Int)) else 1) = (q : Int) ∧ q ≤ 1000 := by
    refine ⟨(if (if mx < (ns.length : Int) then mx else (ns.length : Int)) > 1 then (if mx < (ns.length : Int) then mx else (ns.length : Int)) else 1).toNat, ?_, ?_⟩
    · split <;> split <;> omega
    · split <;> split <;> omega
  have hit : it1F (bltF bMax [(conF (.int 1)), (bltF bMin [(bltF bLen [(varF 0)]), (conF (.int mx))])]) C (some (.ref 0) :: none :: zs) h = .ok ((List.range q).map fun i => .int (i : Nat), []) h := by
    refine it1_ok (n := q) ?_ (by omega)
    simp only [u_blt, u_list, u_list0, u_con, bind_ok, u_var, List.getElem?_cons_zero, u_lenr h0, u_min, u_max, List.length_map, eq]
  rw [u_for, hit]
  obtain ⟨env', h', e, _⟩ := for_upto (C := C) (tg := nmT 1) (body := body) (gs := []) (fun i => .int (i : Nat)) (fun _ env h => ∃ (z : Option D) (zs : List (Option D)), env = some (.ref 0) :: z :: zs ∧ zs.length = m ∧ h[0]? = some (.ro (ns.map .int))) q
    (fun _ _ _ _ => rfl)
    (by
      rintro i env h hi ⟨z, zs, rfl, hz, h0⟩
      obtain ⟨zs', h', l, e, e0⟩ := hb i zs h hz h0
      exact ⟨_, by rw [u_nm, if_pos (by simp)]; rfl, _, h', e, _, zs', rfl, l, e0⟩)
    _ _ ⟨none, zs, rfl, hz, h0⟩
  exact ⟨env', h', by simp only [thenI_ok]; exact e⟩
theorem law_ends {k : Nat} {body : SF} {R : FnRec} {F : SF} {m : Nat} {ns : List Int} {mx : Int} (hm1 : 1 ≤ mx) (hm2 : mx ≤ 1000) (tL : T "law" = some R) (hR : R = ⟨1, m + 2, F⟩)
    (hF : F = seqS (forS (it1F (bltF bMax [(conF (.int 1)), (bltF bMin [(bltF bLen [(varF 0)]), (conF (.int mx))])])) (nmT 1) body) (seqS (retS (conF (.bl true))) nxS))
    (hb : ∀ (i : Nat) (zs : List (Option D)) (h : Hv), zs.length = m → h[0]? = some (.ro (ns.map .int)) → ∃ (zs' : List (Option D)) (h' : Hv), zs'.length = m ∧ body (callK T k) (some (.ref 0) :: some (.int (i : Nat)) :: zs) h = .nx (some (.ref 0) :: some (.int (i : Nat)) :: zs') h' ∧ h'[0]? = some (.ro (ns.map .int))) :
    ∃ h', callK T (k + 1) "law" [.ref 0] [.ro (ns.map .int)] = .ok (.bl true) h' := by
  obtain ⟨env', h', e⟩ := law_cells (C := callK T k) hm1 hm2 hb (List.replicate m none) [.ro (ns.map .int)] (by simp) rfl
  have key : ∀ h h' : Hv, ∃ h2, gc h (.bl true) h' = .ok (.bl true) h2 := by
    intro h h'
    unfold gc
    split
    · exact ⟨_, rfl⟩
    · exact ⟨_, rfl⟩
  obtain ⟨h2, e2⟩ := key [.ro (ns.map .int)] h'
  refine ⟨h2, ?_⟩
  rw [callK_eq tL]
  refine (run_rt (h' := h') (d := .bl true) (by rw [hR]; rfl) ?_).trans e2
  subst hR hF
  have : ([.ref 0] : List D).map some ++ List.replicate (m + 2 - 1) none = some (.ref 0) :: none :: List.replicate m none := by
    rw [show m + 2 - 1 = m + 1 by omega]; rfl
  simp only
  rw [this, u_seq, e]
  rfl
theorem zs11 {zs : List (Option D)} (h : zs.length = 11) : ∃ a0 a1 a2 a3 a4 a5 a6 a7 a8 a9 a10, zs = [a0, a1, a2, a3, a4, a5, a6, a7, a8, a9, a10] := match zs, h with | [a0, a1, a2, a3, a4, a5, a6, a7, a8, a9, a10], _ => ⟨a0, a1, a2, a3, a4, a5, a6, a7, a8, a9, a10, rfl⟩
theorem ref0_hp {h e : Hv} {pen : List D} {o : Ob} (h0 : h[0]? = some o) : (hp h pen e)[0]? = some o := hp_old h0

/-! numbers with a bound: cut into M, not beyond c -/
structure Bn (M c : Nat) (q : Rat) : Prop where
  den : q.den ∣ M
  lo : -(c : Rat) ≤ q
  hi : q ≤ (c : Rat)
theorem rcast (c : Nat) : (((c : Int) : Rat)) = (c : Rat) := rfl
theorem rat_nat_nn (c : Nat) : (0 : Rat) ≤ (c : Rat) := by exact_mod_cast Nat.zero_le c
theorem Bn.mono {M c N d : Nat} {q : Rat} (h : Bn M c q) (hd : M ∣ N) (hc : c ≤ d) : Bn N d q :=
  ⟨Nat.dvd_trans h.den hd, by have := natle hc; have := h.lo; grind, by have := natle hc; have := h.hi; grind⟩
theorem Bn.neg {M c : Nat} {q : Rat} (h : Bn M c q) : Bn M c (-q) :=
  ⟨by simpa using h.den, by have := h.hi; grind, by have := h.lo; grind⟩
theorem Bn.add {M c d : Nat} {a b : Rat} (h0 : 0 < M) (ha : Bn M c a) (hb : Bn M d b) : Bn M (c + d) (a + b) := by
  refine ⟨den_add_dvd h0 ha.den hb.den, ?_, ?_⟩
  · rw [Rat.natCast_add]; have := ha.lo; have := hb.lo; grind
  · rw [Rat.natCast_add]; have := ha.hi; have := hb.hi; grind
theorem Bn.sub {M c d : Nat} {a b : Rat} (h0 : 0 < M) (ha : Bn M c a) (hb : Bn M d b) : Bn M (c + d) (a - b) := by
  rw [Rat.sub_eq_add_neg]; exact ha.add h0 hb.neg
theorem Bn.mul {M c N d : Nat} {a b : Rat} (ha : Bn M c a) (hb : Bn N d b) : Bn (M * N) (c * d) (a * b) := by
  have c0 := rat_nat_nn c
  have d0 := rat_nat_nn d
  have e : ((c * d : Nat) : Rat) = (c : Rat) * (d : Rat) := Rat.natCast_mul ..
  have a1 := ha.lo; have a2 := ha.hi; have b1 := hb.lo; have b2 := hb.hi
  have p1 := Rat.mul_nonneg (a := (c : Rat) - a) (b := (d : Rat) + b) (by grind) (by grind)
  have p2 := Rat.mul_nonneg (a := (c : Rat) + a) (b := (d : Rat) - b) (by grind) (by grind)
  have p3 := Rat.mul_nonneg (a := (c : Rat) + a) (b := (d : Rat) + b) (by grind) (by grind)
  have p4 := Rat.mul_nonneg (a := (c : Rat) - a) (b := (d : Rat) - b) (by grind) (by grind)
  refine ⟨Nat.dvd_trans (den_mul_dvd a b) (Nat.mul_dvd_mul ha.den hb.den), ?_, ?_⟩
  · rw [e]; grind
  · rw [e]; grind
theorem Bn.int {c : Nat} {n : Int} (h : n.natAbs ≤ c) : Bn 1 c (n : Rat) := by
  refine ⟨by simp, ?_, ?_⟩
  · have : -(c : Int) ≤ n := by omega
    have h2 := Rat.intCast_le_intCast.2 this
    rw [Rat.intCast_neg, rcast] at h2
    exact h2
  · have : n ≤ (c : Int) := by omega
    exact_mod_cast this
theorem Bn.zero {M : Nat} : Bn M 0 0 := ⟨Nat.one_dvd _, by simp, by simp⟩
theorem Bn.sc {M : Nat} {q : Rat} (h : Sc M q) : Bn M (2 ^ 64) q := ⟨h.1, by
  have := h.2.1
  have := rat_nat_nn (2 ^ 64)
  grind, h.2.2⟩
theorem Bn.sq {t M : Nat} {q : Rat} (h : Sq2 t M q) : Bn M (2 ^ t) q := ⟨h.1, by
  have := h.2.1
  have := rat_nat_nn (2 ^ t)
  grind, h.2.2⟩
theorem Bn.sum {M c : Nat} (h0 : 0 < M) : ∀ (xs : List Rat), (∀ x ∈ xs, Bn M c x) → Bn M (xs.length * c) xs.sum
  | [], _ => by simpa using Bn.zero
  | x :: xs, h => by
    have := (h x (by simp)).add h0 (Bn.sum h0 xs fun y hy => h y (by simp [hy]))
    rw [List.sum_cons, List.length_cons, Nat.succ_mul, Nat.add_comm]
    exact this
theorem Bn.fit {M c : Nat} {q : Rat} (h : Bn M c q) (hM : 0 < M) (hM1 : M < 2 ^ 4400) (hc : c < 2 ^ 4400) : Fit q := by
  by_cases h0 : 0 ≤ q
  · exact fit_le h.den h0 h.hi hM hM1 hc
  · have hn := h.neg
    have := fit_le hn.den (q := -q) (by grind) hn.hi hM hM1 hc
    have := this.neg
    rwa [Rat.neg_neg] at this
/-! list comprehensions that leave what nobody sees -/
theorem lc_loopx {α : Type} {C : Or} {env : Env} {tg : TF} {t elt : EF} {gs : Guards} {h1 : Hv} (enc : α → D) (p : α → Bool) (f : α → D) (ev : α → Env)
    (hg : ∀ e, guardsOk gs (h1 ++ e) = true) : ∀ (L : List α) (acc : List D) (G : Hv),
    (∀ x ∈ L, ∀ hh, tg (enc x) env hh = some (ev x)) →
    (∀ x ∈ L, ∀ e, ∃ e2, t C (ev x) (h1 ++ e) = .ok (.bl (p x)) (h1 ++ e ++ e2)) →
    (∀ x ∈ L, p x = true → ∀ e, ∃ e2, elt C (ev x) (h1 ++ e) = .ok (f x) (h1 ++ e ++ e2)) →
    acc.length + L.length ≤ 1000000 →
    ∃ G', lcLoop C env tg t elt gs h1.length (L.map enc) (h1 ++ .lst acc :: G) = .ok () (h1 ++ .lst (acc ++ (L.filter p).map f) :: G')
  | [], acc, G, _, _, _, _ => ⟨G, by simp [lcLoop, hg]⟩
  | x :: xs, acc, G, htg, ht, he, hl => by
    have hl' : acc.length + (xs.length + 1) ≤ 1000000 := hl
    have ih := fun acc G => lc_loopx enc p f ev hg xs acc G (fun y hy => htg y (by simp [hy])) (fun y hy => ht y (by simp [hy])) (fun y hy => he y (by simp [hy]))
    obtain ⟨e1, q1⟩ := ht x (by simp) (.lst acc :: G)
    rw [List.map_cons, lcLoop, if_pos (hg _), htg x (by simp)]
    simp only [q1, bind_ok]
    cases hp : p x with
    | false =>
      simp only [List.filter_cons, hp, Bool.false_eq_true, if_false]
      obtain ⟨G', e⟩ := ih acc (G ++ e1) (by omega)
      refine ⟨G', ?_⟩
      rw [← e]; simp
    | true =>
      obtain ⟨e2, q2⟩ := he x (by simp) hp (.lst acc :: G ++ e1)
      rw [← List.append_assoc] at q2
      simp only [q2, bind_ok, List.filter_cons, hp, if_true, List.map_cons]
      have e3 : (h1 ++ Ob.lst acc :: G ++ e1 ++ e2)[h1.length]? = some (.lst acc) := by simp
      simp only [e3]
      rw [if_pos (by unfold szl; omega)]
      have e4 : (h1 ++ Ob.lst acc :: G ++ e1 ++ e2).set h1.length (.lst (acc ++ [f x])) = h1 ++ .lst (acc ++ [f x]) :: (G ++ e1 ++ e2) := by simp [List.set_append]
      obtain ⟨G', e⟩ := ih (acc ++ [f x]) (G ++ e1 ++ e2) (by simp; omega)
      refine ⟨G', ?_⟩
      rw [e4, e]; simp
theorem lc_ext {α : Type} {C : Or} {env : Env} {it : IF} {tg : TF} {own : List Nat} {t elt : EF} {gs : Guards} {h h1 : Hv} (L : List α) (enc : α → D) (p : α → Bool) (f : α → D) (ev : α → Env)
    (hit : it C env h = .ok (L.map enc, gs) h1)
    (hg : ∀ e, guardsOk gs (h1 ++ e) = true)
    (htg : ∀ x ∈ L, ∀ hh, tg (enc x) (wipeD env own) hh = some (ev x))
    (ht : ∀ x ∈ L, ∀ e, ∃ e2, t C (ev x) (h1 ++ e) = .ok (.bl (p x)) (h1 ++ e ++ e2))
    (he : ∀ x ∈ L, p x = true → ∀ e, ∃ e2, elt C (ev x) (h1 ++ e) = .ok (f x) (h1 ++ e ++ e2))
    (hl : L.length ≤ 1000000) : ∃ G, lcF it tg own t elt C env h = .ok (.ref h1.length) (h1 ++ .lst ((L.filter p).map f) :: G) := by
  obtain ⟨G, e⟩ := lc_loopx enc p f ev hg L [] [] htg ht he (by simpa using hl)
  refine ⟨G, ?_⟩
  rw [lcF, hit]
  simp only [bind_ok]
  rw [e]
  simp [R.noexc]
theorem lc_exta {α : Type} {C : Or} {env : Env} {it : IF} {tg : TF} {own : List Nat} {elt : EF} {gs : Guards} {h h1 : Hv} (L : List α) (enc : α → D) (f : α → D) (ev : α → Env)
    (hit : it C env h = .ok (L.map enc, gs) h1)
    (hg : ∀ e, guardsOk gs (h1 ++ e) = true)
    (htg : ∀ x ∈ L, ∀ hh, tg (enc x) (wipeD env own) hh = some (ev x))
    (he : ∀ x ∈ L, ∀ e, ∃ e2, elt C (ev x) (h1 ++ e) = .ok (f x) (h1 ++ e ++ e2))
    (hl : L.length ≤ 1000000) : ∃ G, lcF it tg own (conF (.bl true)) elt C env h = .ok (.ref h1.length) (h1 ++ .lst (L.map f) :: G) := by
  have := lc_ext (t := conF (.bl true)) L enc (fun _ => true) f ev hit hg htg (fun _ _ e => ⟨[], by rw [List.append_nil]; rfl⟩) (fun x hx _ => he x hx) hl
  rwa [List.filter_eq_self.2 (fun _ _ => rfl)] at this
theorem g_ref {h : Hv} {p : Nat} {ds : List D} (hp : h[p]? = some (.lst ds)) (e : Hv) : guardsOk [(p, ds)] (h ++ e) = true := by
  simp only [guardsOk, List.all_cons, List.all_nil, Bool.and_true, row_old (g := e) hp]
  simp

theorem for_list {α : Type} {C : Or} {tg : TF} {body : SF} {gs : Guards} (enc : α → D) (I : List α → Env → Hv → Prop) (W : List α)
    (hg : ∀ pre env h, I pre env h → guardsOk gs h = true)
    (hs : ∀ pre x post env h, W = pre ++ x :: post → I pre env h → ∃ env1, tg (enc x) env h = some env1 ∧ ∃ env2 h2, body C env1 h = .nx env2 h2 ∧ I (pre ++ [x]) env2 h2) :
    ∀ (post pre : List α), W = pre ++ post → ∀ (env : Env) (h : Hv), I pre env h → ∃ env' h', forL C tg body gs (post.map enc) env h = .nx env' h' ∧ I W env' h'
  | [], pre, e, env, h, p => ⟨env, h, by simp [forL, hg _ _ _ p], by rw [e, List.append_nil]; exact p⟩
  | x :: post, pre, e, env, h, p => by
    obtain ⟨env1, e1, env2, h2, e2, p2⟩ := hs pre x post env h e p
    obtain ⟨env', h', e3, p3⟩ := for_list enc I W hg hs post (pre ++ [x]) (by rw [e]; simp) env2 h2 p2
    refine ⟨env', h', ?_, p3⟩
    rw [List.map_cons, forL, if_pos (hg _ _ _ p)]
    simp only [e1, e2, e3]
theorem itE_s {C : Or} {env : Env} {h : Hv} {a : EF} {d : D} {z : List D × Guards} (ha : a C env h = .ok d h) (hd : seqOf d h = some z) : itE a C env h = .ok z h := by
  simp only [itE, ha, bind_ok, hd]
theorem sum_snoc (xs : List Rat) (x : Rat) : (xs ++ [x]).sum = xs.sum + x := by simp [Rat.add_zero]
theorem mem_of_eq {α : Type} {W pre post : List α} {x : α} (e : W = pre ++ x :: post) : x ∈ W := by rw [e]; simp
theorem pre_fit {M c : Nat} {W pre post : List Rat} (e : W = pre ++ post) (h0 : 0 < M) (h1 : M < 2 ^ 4400) (hc : W.length * c < 2 ^ 4400) (hb : ∀ x ∈ W, Bn M c x) : Fit pre.sum := by
  have := Bn.sum h0 pre (fun x hx => hb x (by rw [e]; simp [hx]))
  refine this.fit h0 h1 (Nat.lt_of_le_of_lt (Nat.mul_le_mul_right c ?_) hc)
  rw [e]; simp
theorem all_of_ok (k M c : Nat) (xs : List Rat) (d : D) (gs : Guards) (h : Hv) (hd : seqOf d h = some (xs.map am, gs)) (hg : guardsOk gs h = true) (h0 : 0 < M) (h1 : M < 2 ^ 4400) (hc : (xs.length + 1) * c < 2 ^ 4400) (hb : ∀ x ∈ xs, Bn M c x) :
    callK T (k + 4) "all_of" [d] h = .ok (am xs.sum) h := by
  have hc' : xs.length * c < 2 ^ 4400 := Nat.lt_of_le_of_lt (Nat.mul_le_mul_right c (by omega)) hc
  obtain ⟨env', h', e, ⟨z, rfl⟩, rfl⟩ := for_list (C := callK T (k + 3)) (tg := nmT 2) (body := (seqS (asgS (nmT 1) (callF "plus" [(varF 1), (varF 2)])) nxS)) (gs := gs) am
    (fun pre env h1 => (∃ z, env = [some d, some (am pre.sum), z]) ∧ h1 = h) xs
    (by rintro pre env h1 ⟨_, rfl⟩; exact hg)
    (by
      rintro pre x post env h2 ew ⟨⟨z, rfl⟩, rfl⟩
      have fx := (hb x (mem_of_eq ew)).fit h0 h1 (Nat.lt_of_le_of_lt (by rw [ew]; simp [Nat.succ_mul, Nat.add_mul]) hc)
      have fp := pre_fit ew h0 h1 hc' hb
      have a := plus_ok k pre.sum x h2 fp fx
      refine ⟨[some d, some (am pre.sum), some (am x)], rfl, [some d, some (am (pre.sum + x)), some (am x)], h2, ?_, ⟨some (am x), by rw [sum_snoc]⟩, rfl⟩
      simp only [u_seq, u_asg, u_call, u_exp, u_if, u_ret, u_setS, u_par, u_nx, nxt_nx, nxt_rt, u_list, u_list0, u_var, u_con, u_bin, u_un1, u_and, u_or, u_chain, u_ite, u_blt, u_tup, u_lst, u_slc, u_opt, u_opt0, im_int, u_nm, u_tgs, u_tgs0, u_tupT, List.getElem?_cons_succ, List.getElem?_cons_zero, bind_ok, thenS_ok, thenI_ok, List.length_cons, List.length_nil, Nat.reduceAdd, Nat.reduceSub, Nat.reduceLT, Nat.reduceLeDiff, Nat.zero_le, if_true, om_some, List.set_cons_succ, List.set_cons_zero, bm_bl, Bool.not_true, Bool.not_false, Bool.false_eq_true, if_false, u_add, u_sub, u_neg, u_not, u_lt, u_le, u_gt, u_ge, u_eqI, u_neI, decide_true, decide_false, u_int, u_intb, methF, List.map_cons, List.map_nil, List.replicate, List.cons_append, List.nil_append, a])
    xs [] rfl [some d, some (am 0), none] h ⟨⟨none, by simp⟩, rfl⟩
  rw [callK_eq t_all_of]
  refine (run_rt rfl ?_).trans gc_same
  have hit : itE (varF 0) (callK T (k + 3)) [some d, some (am 0), none] h' = .ok (xs.map am, gs) h' := itE_s rfl hd
  have a0 : D.tup [.int 0, .int 1] = am 0 := rfl
  simp only [R_all_of, F_all_of, u_seq, u_asg, u_call, u_exp, u_if, u_ret, u_setS, u_par, u_nx, nxt_nx, nxt_rt, u_list, u_list0, u_var, u_con, u_bin, u_un1, u_and, u_or, u_chain, u_ite, u_blt, u_tup, u_lst, u_slc, u_opt, u_opt0, im_int, u_nm, u_tgs, u_tgs0, u_tupT, List.getElem?_cons_succ, List.getElem?_cons_zero, bind_ok, thenS_ok, thenI_ok, List.length_cons, List.length_nil, Nat.reduceAdd, Nat.reduceSub, Nat.reduceLT, Nat.reduceLeDiff, Nat.zero_le, if_true, om_some, List.set_cons_succ, List.set_cons_zero, bm_bl, Bool.not_true, Bool.not_false, Bool.false_eq_true, if_false, u_add, u_sub, u_neg, u_not, u_lt, u_le, u_gt, u_ge, u_eqI, u_neI, decide_true, decide_false, u_int, u_intb, methF, List.map_cons, List.map_nil, List.replicate, List.cons_append, List.nil_append, a0, u_for, hit, e]
theorem _law_sum_ok (k M c : Nat) (xs : List Rat) (d : D) (gs : Guards) (h : Hv) (hd : seqOf d h = some (xs.map am, gs)) (hg : guardsOk gs h = true) (h0 : 0 < M) (h1 : M < 2 ^ 4400) (hc : (xs.length + 1) * c < 2 ^ 4400) (hb : ∀ x ∈ xs, Bn M c x) :
    callK T (k + 4) "_law_sum" [d] h = .ok (am xs.sum) h := by
  have hc' : xs.length * c < 2 ^ 4400 := Nat.lt_of_le_of_lt (Nat.mul_le_mul_right c (by omega)) hc
  obtain ⟨env', h', e, ⟨z, rfl⟩, rfl⟩ := for_list (C := callK T (k + 3)) (tg := nmT 2) (body := (seqS (asgS (nmT 1) (callF "_law_plus" [(varF 1), (varF 2)])) nxS)) (gs := gs) am
    (fun pre env h1 => (∃ z, env = [some d, some (am pre.sum), z]) ∧ h1 = h) xs
    (by rintro pre env h1 ⟨_, rfl⟩; exact hg)
    (by
      rintro pre x post env h2 ew ⟨⟨z, rfl⟩, rfl⟩
      have fx := (hb x (mem_of_eq ew)).fit h0 h1 (Nat.lt_of_le_of_lt (by rw [ew]; simp [Nat.succ_mul, Nat.add_mul]) hc)
      have fp := pre_fit ew h0 h1 hc' hb
      have a := _law_plus_ok k pre.sum x h2 fp fx
      refine ⟨[some d, some (am pre.sum), some (am x)], rfl, [some d, some (am (pre.sum + x)), some (am x)], h2, ?_, ⟨some (am x), by rw [sum_snoc]⟩, rfl⟩
      simp only [u_seq, u_asg, u_call, u_exp, u_if, u_ret, u_setS, u_par, u_nx, nxt_nx, nxt_rt, u_list, u_list0, u_var, u_con, u_bin, u_un1, u_and, u_or, u_chain, u_ite, u_blt, u_tup, u_lst, u_slc, u_opt, u_opt0, im_int, u_nm, u_tgs, u_tgs0, u_tupT, List.getElem?_cons_succ, List.getElem?_cons_zero, bind_ok, thenS_ok, thenI_ok, List.length_cons, List.length_nil, Nat.reduceAdd, Nat.reduceSub, Nat.reduceLT, Nat.reduceLeDiff, Nat.zero_le, if_true, om_some, List.set_cons_succ, List.set_cons_zero, bm_bl, Bool.not_true, Bool.not_false, Bool.false_eq_true, if_false, u_add, u_sub, u_neg, u_not, u_lt, u_le, u_gt, u_ge, u_eqI, u_neI, decide_true, decide_false, u_int, u_intb, methF, List.map_cons, List.map_nil, List.replicate, List.cons_append, List.nil_append, a])
    xs [] rfl [some d, some (am 0), none] h ⟨⟨none, by simp⟩, rfl⟩
  rw [callK_eq t__law_sum]
  refine (run_rt rfl ?_).trans gc_same
  have hit : itE (varF 0) (callK T (k + 3)) [some d, some (am 0), none] h' = .ok (xs.map am, gs) h' := itE_s rfl hd
  have a0 : D.tup [.int 0, .int 1] = am 0 := rfl
  simp only [R__law_sum, F__law_sum, u_seq, u_asg, u_call, u_exp, u_if, u_ret, u_setS, u_par, u_nx, nxt_nx, nxt_rt, u_list, u_list0, u_var, u_con, u_bin, u_un1, u_and, u_or, u_chain, u_ite, u_blt, u_tup, u_lst, u_slc, u_opt, u_opt0, im_int, u_nm, u_tgs, u_tgs0, u_tupT, List.getElem?_cons_succ, List.getElem?_cons_zero, bind_ok, thenS_ok, thenI_ok, List.length_cons, List.length_nil, Nat.reduceAdd, Nat.reduceSub, Nat.reduceLT, Nat.reduceLeDiff, Nat.zero_le, if_true, om_some, List.set_cons_succ, List.set_cons_zero, bm_bl, Bool.not_true, Bool.not_false, Bool.false_eq_true, if_false, u_add, u_sub, u_neg, u_not, u_lt, u_le, u_gt, u_ge, u_eqI, u_neI, decide_true, decide_false, u_int, u_intb, methF, List.map_cons, List.map_nil, List.replicate, List.cons_append, List.nil_append, a0, u_for, hit, e]

/-! what holds behind each number of deeds -/
structure Facts (P K M : Nat) (s : Sta) : Prop where
  M0 : 0 < M
  M1 : M < 2 ^ 2930
  len : s.ls.length ≤ 21
  kd : ∀ l ∈ s.ls, l.k < K
  n : ∀ l ∈ s.ls, 0 ≤ l.n ∧ l.n < 2 ^ 140
  sl : ∀ l ∈ s.ls, l.sh.length = P
  sh : ∀ l ∈ s.ls, ∀ q ∈ l.sh, Bn M (2 ^ 17) q
  s0 : ∀ l ∈ s.ls, ∀ q ∈ l.sh, 0 ≤ q
  hl : s.hs.length = P
  hs : ∀ q ∈ s.hs, Bn M (2 ^ 17) q
  h0 : ∀ q ∈ s.hs, 0 ≤ q
theorem BkC.facts {n : Nat} {b : Bk} (c : BkC n b) (hn : n ≤ 17) (m : Nat) : ∃ M, Facts b.P b.K M (b.st m) := by
  obtain ⟨M, g⟩ := c.goodAt hn m
  have hl := c.len
  have gt := g.tot
  have tn := tot_nn g.nn
  have tb : ((4 : Int) + (min m b.ds.length : Nat)) * 2 ^ 131 ≤ 21 * 2 ^ 131 := Int.mul_le_mul_of_nonneg_right (by omega) (by decide)
  have pw : 2 ^ (min m b.ds.length) ≤ 2 ^ 17 := Nat.pow_le_pow_right (by decide) (by omega)
  refine ⟨M, g.M0, Nat.lt_of_lt_of_le g.M1 (Nat.pow_le_pow_right (by decide) (by omega)), by have := g.len; omega, g.kd, fun l hl => ⟨g.nn l hl, ?_⟩, fun l hl => (g.sh l hl).1, fun l hl q hq => (Bn.sq ((g.sh l hl).2 q hq)).mono (Nat.dvd_refl _) pw, fun l hl q hq => ((g.sh l hl).2 q hq).2.1, g.hs.1, fun q hq => (Bn.sq (g.hs.2 q hq)).mono (Nat.dvd_refl _) pw, fun q hq => (g.hs.2 q hq).2.1⟩
  have := tn.2 l hl
  have : tot (b.st m).ls ≤ 21 * 2 ^ 131 := Int.le_trans gt tb
  omega
theorem ix_sh {ss : List Rat} {p : Nat} (hp : p < ss.length) (h : Hv) : opIx (shD ss) (.int p) h = .ok (am (ss.getD p 0)) h := by
  rw [shD, ix_tup, at_nat, List.getElem?_map, List.getElem?_eq_getElem hp]
  simp [hp]
theorem nbig {n : Int} (h : 0 ≤ n ∧ n < 2 ^ 140) : n.natAbs < bigM := Nat.lt_of_lt_of_le (show n.natAbs < 2 ^ 140 by omega) (Nat.pow_le_pow_right (by decide) (by decide))
theorem Facts.fit {P K M : Nat} {s : Sta} (F : Facts P K M s) {l : Ld} (hl : l ∈ s.ls) {p : Nat} (hp : p < P) : Fit (l.sh.getD p 0) :=
  (F.sh l hl _ (getD_mem (by rw [F.sl l hl]; exact hp))).fit F.M0 (Nat.lt_of_lt_of_le F.M1 (Nat.pow_le_pow_right (by decide) (by decide))) (Nat.pow_lt_pow_right (by decide) (by decide))
theorem Facts.part {P K M : Nat} {s : Sta} (F : Facts P K M s) {l : Ld} (hl : l ∈ s.ls) {p : Nat} (hp : p < P) : Bn M (2 ^ 157) ((l.n : Rat) * l.sh.getD p 0) := by
  have a := Bn.int (n := l.n) (c := 2 ^ 140) (by have := F.n l hl; omega)
  have := a.mul (F.sh l hl _ (getD_mem (by rw [F.sl l hl]; exact hp)))
  rwa [Nat.one_mul, ← Nat.pow_add] at this
/-- what is a partner's of a kind -/
def theirs1 (ls : List Ld) (p kd : Nat) : Rat := ((ls.filter fun l => decide ((l.k : Int) = kd)).map fun l => (l.n : Rat) * l.sh.getD p 0).sum
def theirs (K : Nat) (ls : List Ld) (p : Nat) : List Rat := (List.range K).map (theirs1 ls p)
theorem Facts.theirs1 {P K M : Nat} {s : Sta} (F : Facts P K M s) {p : Nat} (hp : p < P) (kd : Nat) : ∀ x ∈ (s.ls.filter fun l => decide ((l.k : Int) = kd)).map (fun l => (l.n : Rat) * l.sh.getD p 0), Bn M (2 ^ 157) x := by
  intro x hx
  obtain ⟨l, hl, rfl⟩ := List.mem_map.1 hx
  exact F.part (List.mem_filter.1 hl).1 hp
theorem len_bd {α : Type} {xs : List α} {c k : Nat} (h : xs.length ≤ 900) (hc : c ≤ 2 ^ k) (hk : k ≤ 4000) : (xs.length + 1) * c < 2 ^ 4400 := by
  have : (xs.length + 1) * c ≤ 2 ^ 10 * 2 ^ k := Nat.mul_le_mul (by omega) hc
  rw [← Nat.pow_add] at this
  exact Nat.lt_of_le_of_lt this (Nat.pow_lt_pow_right (by decide) (by omega))
theorem m_bd {M : Nat} (h : M < 2 ^ 2930) : M < 2 ^ 4400 := Nat.lt_of_lt_of_le h (Nat.pow_le_pow_right (by decide) (by decide))
theorem shD_snoc (f : Nat → Rat) (j : Nat) : ((List.range j).map fun i => am (f i)) ++ [am (f j)] = (List.range (j + 1)).map fun i => am (f i) := by
  rw [List.range_succ, List.map_append]; rfl
theorem g_len (h : Hv) (o : Ob) (G : Hv) : (h ++ o :: G)[h.length]? = some o := by simp
section
variable {n : Nat} {b : Bk} (c : BkC n b) (hn : n ≤ 17)
include c hn
theorem p_theirs_in (k m p : Nat) (hm : m ≤ b.ds.length) (hp : p < b.P) (h : Hv) : callK T (k + 11) "theirs_in" [b.d, .int m, .int p] h = .ok (shD (theirs b.K (b.st m).ls p)) h := by
  obtain ⟨M, F⟩ := c.facts hn m
  have L := p_loads_in c hn k m hm h
  have b0 : ∀ h, opIx b.d (.int 0) h = .ok b.tr h := fun h => by simp [Bk.d, bookD]
  have t1 : ∀ h, opIx b.tr (.int 1) h = .ok (.int b.K) h := fun h => by simp [Bk.tr, trD]
  have hK := c.K
  generalize hls : (b.st m).ls = ls at *
  obtain ⟨env', h', e, ⟨z5, z6, rfl⟩, G, rfl⟩ := for_upto (C := callK T (k + 10)) (tg := nmT 5) (body := (seqS (asgS (nmT 6) (lcF (itE (varF 3)) (tupT [(nmT 7), (nmT 8), (nmT 9)]) [7, 8, 9] (binF (opEqD false) (varF 7) (varF 5)) (callF "so_many" [(varF 8), (binF opIx (varF 9) (varF 2))]))) (seqS (expS (methF mAppend (varF 4) [(callF "all_of" [(varF 6)])])) nxS))) (gs := []) (fun i => .int (i : Nat))
    (fun j env h1 => (∃ z5 z6, env = [some b.d, some (.int m), some (.int p), some (lsD ls), some (.ref h.length), z5, z6, none, none, none]) ∧ ∃ G, h1 = h ++ .lst ((List.range j).map fun i => am (theirs1 ls p i)) :: G) b.K
    (fun _ _ _ _ => rfl)
    (by
      rintro j env h1 hj ⟨⟨z5, z6, rfl⟩, G, rfl⟩
      generalize hh1 : h ++ Ob.lst ((List.range j).map fun i => am (theirs1 ls p i)) :: G = h1
      have lc := lc_pure (C := callK T (k + 10)) (env := [some b.d, some (.int m), some (.int p), some (lsD ls), some (.ref h.length), some (.int (j : Nat)), z6, none, none, none]) (it := itE (varF 3)) (tg := tupT [(nmT 7), (nmT 8), (nmT 9)]) (own := [7, 8, 9]) (t := binF (opEqD false) (varF 7) (varF 5)) (elt := callF "so_many" [(varF 8), (binF opIx (varF 9) (varF 2))])
        (gs := []) (h := h1) (h1 := h1) ls ldD (fun l => decide ((l.k : Int) = j)) (fun l => am ((l.n : Rat) * l.sh.getD p 0)) (fun l => [some b.d, some (.int m), some (.int p), some (lsD ls), some (.ref h.length), some (.int (j : Nat)), z6, some (.int l.k), some (.int l.n), some (shD l.sh)])
        (itE_t rfl) (fun _ => rfl) (fun l hl acc => rfl) (fun l hl acc => by simp only [u_seq, u_asg, u_call, u_exp, u_if, u_ret, u_setS, u_par, u_nx, nxt_nx, nxt_rt, u_list, u_list0, u_var, u_con, u_bin, u_un1, u_and, u_or, u_chain, u_ite, u_blt, u_tup, u_lst, u_slc, u_opt, u_opt0, im_int, u_nm, u_tgs, u_tgs0, u_tupT, List.getElem?_cons_succ, List.getElem?_cons_zero, bind_ok, thenS_ok, thenI_ok, List.length_cons, List.length_nil, Nat.reduceAdd, Nat.reduceSub, Nat.reduceLT, Nat.reduceLeDiff, Nat.zero_le, if_true, om_some, List.set_cons_succ, List.set_cons_zero, bm_bl, Bool.not_true, Bool.not_false, Bool.false_eq_true, if_false, u_add, u_sub, u_neg, u_not, u_lt, u_le, u_gt, u_ge, u_eqI, u_neI, decide_true, decide_false, u_int, u_intb, methF, List.map_cons, List.map_nil, List.replicate, List.cons_append, List.nil_append])
        (by
          intro l hl _ acc
          have sm := so_many_ok (k + 7) l.n (l.sh.getD p 0) (h1 ++ [.lst acc]) (nbig (F.n l (hls ▸ hl))) (F.fit (hls ▸ hl) hp)
          have ix := ix_sh (ss := l.sh) (p := p) (by rw [F.sl l (hls ▸ hl)]; exact hp) (h1 ++ [.lst acc])
          simp only [u_seq, u_asg, u_call, u_exp, u_if, u_ret, u_setS, u_par, u_nx, nxt_nx, nxt_rt, u_list, u_list0, u_var, u_con, u_bin, u_un1, u_and, u_or, u_chain, u_ite, u_blt, u_tup, u_lst, u_slc, u_opt, u_opt0, im_int, u_nm, u_tgs, u_tgs0, u_tupT, List.getElem?_cons_succ, List.getElem?_cons_zero, bind_ok, thenS_ok, thenI_ok, List.length_cons, List.length_nil, Nat.reduceAdd, Nat.reduceSub, Nat.reduceLT, Nat.reduceLeDiff, Nat.zero_le, if_true, om_some, List.set_cons_succ, List.set_cons_zero, bm_bl, Bool.not_true, Bool.not_false, Bool.false_eq_true, if_false, u_add, u_sub, u_neg, u_not, u_lt, u_le, u_gt, u_ge, u_eqI, u_neI, decide_true, decide_false, u_int, u_intb, methF, List.map_cons, List.map_nil, List.replicate, List.cons_append, List.nil_append, ix, sm])
        (by have := F.len; rw [hls] at this; omega)
      obtain ⟨xs, hxs⟩ : ∃ xs : List Rat, xs = (ls.filter fun l => decide ((l.k : Int) = j)).map fun l => (l.n : Rat) * l.sh.getD p 0 := ⟨_, rfl⟩
      have eq2 : (ls.filter fun l => decide ((l.k : Int) = j)).map (fun l => am ((l.n : Rat) * l.sh.getD p 0)) = xs.map am := by rw [hxs, List.map_map]; rfl
      rw [eq2] at lc
      have bn := F.theirs1 hp j
      rw [hls, ← hxs] at bn
      have ll : xs.length ≤ 900 := by
        have := F.len
        rw [hls] at this
        rw [hxs, List.length_map]
        exact Nat.le_trans (List.length_filter_le ..) (by omega)
      have es : xs.sum = theirs1 ls p j := by rw [hxs]; rfl
      have sq : seqOf (.ref h1.length) (h1 ++ [.lst (xs.map am)]) = some (xs.map am, [(h1.length, xs.map am)]) := by simp only [seqOf, last_at]
      have ao := all_of_ok (k + 6) M (2 ^ 157) xs _ _ _ sq (by have := g_ref (last_at h1 (.lst (xs.map am))) []; rwa [List.append_nil] at this) F.M0 (m_bd F.M1) (len_bd (k := 157) ll (Nat.le_refl _) (by decide)) bn
      rw [es] at ao
      clear hxs eq2 bn
      subst hh1
      have e3 : h ++ Ob.lst ((List.range j).map fun i => am (theirs1 ls p i)) :: G ++ [Ob.lst (xs.map am)] = h ++ Ob.lst ((List.range j).map fun i => am (theirs1 ls p i)) :: (G ++ [Ob.lst (xs.map am)]) := by simp
      rw [e3] at ao lc
      have il := isl_of (g_len h (Ob.lst ((List.range j).map fun i => am (theirs1 ls p i))) (G ++ [Ob.lst (xs.map am)]))
      have ap := app_ref (d := am (theirs1 ls p j)) (g_len h (Ob.lst ((List.range j).map fun i => am (theirs1 ls p i))) (G ++ [Ob.lst (xs.map am)])) (by simp; omega)
      rw [g_set, shD_snoc] at ap
      refine ⟨_, rfl, [some b.d, some (.int m), some (.int p), some (lsD ls), some (.ref h.length), some (.int (j : Nat)), some (.ref (h ++ Ob.lst ((List.range j).map fun i => am (theirs1 ls p i)) :: G).length), none, none, none], _, ?_, ⟨some (.int (j : Nat)), _, rfl⟩, G ++ [Ob.lst (xs.map am)], rfl⟩
      simp only [u_seq, u_asg, u_call, u_exp, u_if, u_ret, u_setS, u_par, u_nx, nxt_nx, nxt_rt, u_list, u_list0, u_var, u_con, u_bin, u_un1, u_and, u_or, u_chain, u_ite, u_blt, u_tup, u_lst, u_slc, u_opt, u_opt0, im_int, u_nm, u_tgs, u_tgs0, u_tupT, List.getElem?_cons_succ, List.getElem?_cons_zero, bind_ok, thenS_ok, thenI_ok, List.length_cons, List.length_nil, Nat.reduceAdd, Nat.reduceSub, Nat.reduceLT, Nat.reduceLeDiff, Nat.zero_le, if_true, om_some, List.set_cons_succ, List.set_cons_zero, bm_bl, Bool.not_true, Bool.not_false, Bool.false_eq_true, if_false, u_add, u_sub, u_neg, u_not, u_lt, u_le, u_gt, u_ge, u_eqI, u_neI, decide_true, decide_false, u_int, u_intb, methF, List.map_cons, List.map_nil, List.replicate, List.cons_append, List.nil_append, lc, il, ao, ap])
    [some b.d, some (.int m), some (.int p), some (lsD ls), some (.ref h.length), none, none, none, none, none] (h ++ [.lst []]) ⟨⟨_, _, rfl⟩, [], rfl⟩
  have hit : it1F (binF opIx (binF opIx (varF 0) (conF (.int 0))) (conF (.int 1))) (callK T (k + 10)) [some b.d, some (.int m), some (.int p), some (lsD ls), some (.ref h.length), none, none, none, none, none] (h ++ [.lst []]) = .ok ((List.range b.K).map fun i => .int (i : Nat), []) (h ++ [.lst []]) := it1_ok (n := b.K) (by simp only [u_seq, u_asg, u_call, u_exp, u_if, u_ret, u_setS, u_par, u_nx, nxt_nx, nxt_rt, u_list, u_list0, u_var, u_con, u_bin, u_un1, u_and, u_or, u_chain, u_ite, u_blt, u_tup, u_lst, u_slc, u_opt, u_opt0, im_int, u_nm, u_tgs, u_tgs0, u_tupT, List.getElem?_cons_succ, List.getElem?_cons_zero, bind_ok, thenS_ok, thenI_ok, List.length_cons, List.length_nil, Nat.reduceAdd, Nat.reduceSub, Nat.reduceLT, Nat.reduceLeDiff, Nat.zero_le, if_true, om_some, List.set_cons_succ, List.set_cons_zero, bm_bl, Bool.not_true, Bool.not_false, Bool.false_eq_true, if_false, u_add, u_sub, u_neg, u_not, u_lt, u_le, u_gt, u_ge, u_eqI, u_neI, decide_true, decide_false, u_int, u_intb, methF, List.map_cons, List.map_nil, List.replicate, List.cons_append, List.nil_append, b0, t1]) (by omega)
  have et := u_tuplel (g_len h (Ob.lst ((List.range b.K).map fun i => am (theirs1 ls p i))) G)
  have er : D.tup ((List.range b.K).map fun i => am (theirs1 ls p i)) = shD (theirs b.K ls p) := by simp [shD, theirs]
  rw [er] at et
  rw [callK_eq t_theirs_in]
  refine (run_rt rfl ?_).trans (gc_app (g := .lst ((List.range b.K).map fun i => am (theirs1 ls p i)) :: G) (shD_gr _))
  simp only [R_theirs_in, F_theirs_in, u_seq, u_asg, u_call, u_exp, u_if, u_ret, u_setS, u_par, u_nx, nxt_nx, nxt_rt, u_list, u_list0, u_var, u_con, u_bin, u_un1, u_and, u_or, u_chain, u_ite, u_blt, u_tup, u_lst, u_slc, u_opt, u_opt0, im_int, u_nm, u_tgs, u_tgs0, u_tupT, List.getElem?_cons_succ, List.getElem?_cons_zero, bind_ok, thenS_ok, thenI_ok, List.length_cons, List.length_nil, Nat.reduceAdd, Nat.reduceSub, Nat.reduceLT, Nat.reduceLeDiff, Nat.zero_le, if_true, om_some, List.set_cons_succ, List.set_cons_zero, bm_bl, Bool.not_true, Bool.not_false, Bool.false_eq_true, if_false, u_add, u_sub, u_neg, u_not, u_lt, u_le, u_gt, u_ge, u_eqI, u_neI, decide_true, decide_false, u_int, u_intb, methF, List.map_cons, List.map_nil, List.replicate, List.cons_append, List.nil_append, L, u_for, hit, e, et]
theorem p_is_partner (k p : Nat) (hp : p < b.P) (h : Hv) : callK T (k + 3) "is_partner" [b.tr, .int p] h = .ok (.bl true) h := by
  have iw := is_within_ok k p 0 ((b.P : Int) - 1) h (by omega) (by omega)
  have t0 : ∀ h, opIx b.tr (.int 0) h = .ok (.int b.P) h := fun h => by simp [Bk.tr, trD]
  rw [callK_eq t_is_partner]
  refine (run_rt rfl ?_).trans gc_same
  simp only [R_is_partner, F_is_partner, u_seq, u_asg, u_call, u_exp, u_if, u_ret, u_setS, u_par, u_nx, nxt_nx, nxt_rt, u_list, u_list0, u_var, u_con, u_bin, u_un1, u_and, u_or, u_chain, u_ite, u_blt, u_tup, u_lst, u_slc, u_opt, u_opt0, im_int, u_nm, u_tgs, u_tgs0, u_tupT, List.getElem?_cons_succ, List.getElem?_cons_zero, bind_ok, thenS_ok, thenI_ok, List.length_cons, List.length_nil, Nat.reduceAdd, Nat.reduceSub, Nat.reduceLT, Nat.reduceLeDiff, Nat.zero_le, if_true, om_some, List.set_cons_succ, List.set_cons_zero, bm_bl, Bool.not_true, Bool.not_false, Bool.false_eq_true, if_false, u_add, u_sub, u_neg, u_not, u_lt, u_le, u_gt, u_ge, u_eqI, u_neI, decide_true, decide_false, u_int, u_intb, methF, List.map_cons, List.map_nil, List.replicate, List.cons_append, List.nil_append, t0, iw]
theorem p_need_partner (k p : Nat) (hp : p < b.P) (h : Hv) : callK T (k + 4) "need_partner" [b.d, .int p] h = .ok .non h := by
  have iw := p_is_partner c hn k p hp h
  have b0 : ∀ h, opIx b.d (.int 0) h = .ok b.tr h := fun h => by simp [Bk.d, bookD]
  rw [callK_eq t_need_partner]
  refine (run_nx (e := [some b.d, some (.int p)]) rfl ?_).trans gc_same
  simp only [R_need_partner, F_need_partner, u_seq, u_asg, u_call, u_exp, u_if, u_ret, u_setS, u_par, u_nx, nxt_nx, nxt_rt, u_list, u_list0, u_var, u_con, u_bin, u_un1, u_and, u_or, u_chain, u_ite, u_blt, u_tup, u_lst, u_slc, u_opt, u_opt0, im_int, u_nm, u_tgs, u_tgs0, u_tupT, List.getElem?_cons_succ, List.getElem?_cons_zero, bind_ok, thenS_ok, thenI_ok, List.length_cons, List.length_nil, Nat.reduceAdd, Nat.reduceSub, Nat.reduceLT, Nat.reduceLeDiff, Nat.zero_le, if_true, om_some, List.set_cons_succ, List.set_cons_zero, bm_bl, Bool.not_true, Bool.not_false, Bool.false_eq_true, if_false, u_add, u_sub, u_neg, u_not, u_lt, u_le, u_gt, u_ge, u_eqI, u_neI, decide_true, decide_false, u_int, u_intb, methF, List.map_cons, List.map_nil, List.replicate, List.cons_append, List.nil_append, b0, iw]
theorem p_theirs_by (k m p : Nat) (hm : m ≤ b.ds.length) (hp : p < b.P) (h : Hv) : callK T (k + 12) "theirs_by" [b.d, .int m, .int p] h = .ok (shD (theirs b.K (b.st m).ls p)) h := by
  have e1 := p_need_done c hn (k + 1) h
  have e2 := p_need_many (b := b) (k + 1) m hm h
  have e3 := p_need_partner c hn (k + 7) p hp h
  have e4 := p_theirs_in c hn k m p hm hp h
  rw [callK_eq t_theirs_by]
  refine (run_rt rfl ?_).trans gc_same
  simp only [R_theirs_by, F_theirs_by, u_seq, u_asg, u_call, u_exp, u_if, u_ret, u_setS, u_par, u_nx, nxt_nx, nxt_rt, u_list, u_list0, u_var, u_con, u_bin, u_un1, u_and, u_or, u_chain, u_ite, u_blt, u_tup, u_lst, u_slc, u_opt, u_opt0, im_int, u_nm, u_tgs, u_tgs0, u_tupT, List.getElem?_cons_succ, List.getElem?_cons_zero, bind_ok, thenS_ok, thenI_ok, List.length_cons, List.length_nil, Nat.reduceAdd, Nat.reduceSub, Nat.reduceLT, Nat.reduceLeDiff, Nat.zero_le, if_true, om_some, List.set_cons_succ, List.set_cons_zero, bm_bl, Bool.not_true, Bool.not_false, Bool.false_eq_true, if_false, u_add, u_sub, u_neg, u_not, u_lt, u_le, u_gt, u_ge, u_eqI, u_neI, decide_true, decide_false, u_int, u_intb, methF, List.map_cons, List.map_nil, List.replicate, List.cons_append, List.nil_append, e1, e2, e3, e4]
end
/-! the stock -/
def stock1 (ls : List Ld) (kd : Nat) : Int := ((ls.filter fun l => decide ((l.k : Int) = kd)).map fun l => l.n).sum
def stock (K : Nat) (ls : List Ld) : List Int := (List.range K).map (stock1 ls)
section
variable {n : Nat} {b : Bk} (c : BkC n b) (hn : n ≤ 17)
include c hn
theorem p_stock_in (k m : Nat) (h : Hv) : callK T (k + 1) "stock_in" [b.d, (b.st m).d] h = .ok (wsD (stock b.K (b.st m).ls)) h := by
  obtain ⟨M, F⟩ := c.facts hn m
  have b0 : ∀ h, opIx b.d (.int 0) h = .ok b.tr h := fun h => by simp [Bk.d, bookD]
  have t1 : ∀ h, opIx b.tr (.int 1) h = .ok (.int b.K) h := fun h => by simp [Bk.tr, trD]
  have s0 : ∀ h, opIx (b.st m).d (.int 0) h = .ok (lsD (b.st m).ls) h := fun h => by simp [Sta.d, stD]
  have hK := c.K
  have ll := F.len
  generalize (b.st m).ls = ls at *
  obtain ⟨G, e⟩ := lc_exta (C := callK T k) (env := [some b.d, some (b.st m).d, none, none, none, none]) (it := it1F (binF opIx (binF opIx (varF 0) (conF (.int 0))) (conF (.int 1)))) (tg := nmT 2) (own := [2]) (elt := bltF bSum [(lcF (itE (binF opIx (varF 1) (conF (.int 0)))) (tupT [(nmT 3), (nmT 4), (nmT 5)]) [3, 4, 5] (binF (opEqD false) (varF 3) (varF 2)) (varF 4))])
    (gs := []) (h := h) (h1 := h) (List.range b.K) (fun i => .int (i : Nat)) (fun j => .int (stock1 ls j)) (fun j => [some b.d, some (b.st m).d, some (.int (j : Nat)), none, none, none])
    (it1_ok (n := b.K) (by simp only [u_seq, u_asg, u_call, u_exp, u_if, u_ret, u_setS, u_par, u_nx, nxt_nx, nxt_rt, u_list, u_list0, u_var, u_con, u_bin, u_un1, u_and, u_or, u_chain, u_ite, u_blt, u_tup, u_lst, u_slc, u_opt, u_opt0, im_int, u_nm, u_tgs, u_tgs0, u_tupT, List.getElem?_cons_succ, List.getElem?_cons_zero, bind_ok, thenS_ok, thenI_ok, List.length_cons, List.length_nil, Nat.reduceAdd, Nat.reduceSub, Nat.reduceLT, Nat.reduceLeDiff, Nat.zero_le, if_true, om_some, List.set_cons_succ, List.set_cons_zero, bm_bl, Bool.not_true, Bool.not_false, Bool.false_eq_true, if_false, u_add, u_sub, u_neg, u_not, u_lt, u_le, u_gt, u_ge, u_eqI, u_neI, decide_true, decide_false, u_int, u_intb, methF, List.map_cons, List.map_nil, List.replicate, List.cons_append, List.nil_append, b0, t1]) (by omega))
    (fun _ => rfl) (fun j hj hh => rfl)
    (by
      intro j hj e
      have lc := lc_pure (C := callK T k) (env := [some b.d, some (b.st m).d, some (.int (j : Nat)), none, none, none]) (it := itE (binF opIx (varF 1) (conF (.int 0)))) (tg := tupT [(nmT 3), (nmT 4), (nmT 5)]) (own := [3, 4, 5]) (t := binF (opEqD false) (varF 3) (varF 2)) (elt := varF 4)
        (gs := []) (h := h ++ e) (h1 := h ++ e) ls ldD (fun l => decide ((l.k : Int) = j)) (fun l => .int l.n) (fun l => [some b.d, some (b.st m).d, some (.int (j : Nat)), some (.int l.k), some (.int l.n), some (shD l.sh)])
        (itE_t (by simp only [u_seq, u_asg, u_call, u_exp, u_if, u_ret, u_setS, u_par, u_nx, nxt_nx, nxt_rt, u_list, u_list0, u_var, u_con, u_bin, u_un1, u_and, u_or, u_chain, u_ite, u_blt, u_tup, u_lst, u_slc, u_opt, u_opt0, im_int, u_nm, u_tgs, u_tgs0, u_tupT, List.getElem?_cons_succ, List.getElem?_cons_zero, bind_ok, thenS_ok, thenI_ok, List.length_cons, List.length_nil, Nat.reduceAdd, Nat.reduceSub, Nat.reduceLT, Nat.reduceLeDiff, Nat.zero_le, if_true, om_some, List.set_cons_succ, List.set_cons_zero, bm_bl, Bool.not_true, Bool.not_false, Bool.false_eq_true, if_false, u_add, u_sub, u_neg, u_not, u_lt, u_le, u_gt, u_ge, u_eqI, u_neI, decide_true, decide_false, u_int, u_intb, methF, List.map_cons, List.map_nil, List.replicate, List.cons_append, List.nil_append, s0]; rfl)) (fun _ => rfl) (fun l hl acc => rfl) (fun l hl acc => by simp only [u_seq, u_asg, u_call, u_exp, u_if, u_ret, u_setS, u_par, u_nx, nxt_nx, nxt_rt, u_list, u_list0, u_var, u_con, u_bin, u_un1, u_and, u_or, u_chain, u_ite, u_blt, u_tup, u_lst, u_slc, u_opt, u_opt0, im_int, u_nm, u_tgs, u_tgs0, u_tupT, List.getElem?_cons_succ, List.getElem?_cons_zero, bind_ok, thenS_ok, thenI_ok, List.length_cons, List.length_nil, Nat.reduceAdd, Nat.reduceSub, Nat.reduceLT, Nat.reduceLeDiff, Nat.zero_le, if_true, om_some, List.set_cons_succ, List.set_cons_zero, bm_bl, Bool.not_true, Bool.not_false, Bool.false_eq_true, if_false, u_add, u_sub, u_neg, u_not, u_lt, u_le, u_gt, u_ge, u_eqI, u_neI, decide_true, decide_false, u_int, u_intb, methF, List.map_cons, List.map_nil, List.replicate, List.cons_append, List.nil_append]) (fun l hl _ acc => rfl) (by omega)
      have eq2 : (ls.filter fun l => decide ((l.k : Int) = j)).map (fun l => D.int l.n) = ((ls.filter fun l => decide ((l.k : Int) = j)).map fun l => l.n).map .int := by rw [List.map_map]; rfl
      rw [eq2] at lc
      have su := u_sum (last_at (h ++ e) (.lst (((ls.filter fun l => decide ((l.k : Int) = j)).map fun l => l.n).map .int)))
      refine ⟨[.lst (((ls.filter fun l => decide ((l.k : Int) = j)).map fun l => l.n).map .int)], ?_⟩
      simp only [u_seq, u_asg, u_call, u_exp, u_if, u_ret, u_setS, u_par, u_nx, nxt_nx, nxt_rt, u_list, u_list0, u_var, u_con, u_bin, u_un1, u_and, u_or, u_chain, u_ite, u_blt, u_tup, u_lst, u_slc, u_opt, u_opt0, im_int, u_nm, u_tgs, u_tgs0, u_tupT, List.getElem?_cons_succ, List.getElem?_cons_zero, bind_ok, thenS_ok, thenI_ok, List.length_cons, List.length_nil, Nat.reduceAdd, Nat.reduceSub, Nat.reduceLT, Nat.reduceLeDiff, Nat.zero_le, if_true, om_some, List.set_cons_succ, List.set_cons_zero, bm_bl, Bool.not_true, Bool.not_false, Bool.false_eq_true, if_false, u_add, u_sub, u_neg, u_not, u_lt, u_le, u_gt, u_ge, u_eqI, u_neI, decide_true, decide_false, u_int, u_intb, methF, List.map_cons, List.map_nil, List.replicate, List.cons_append, List.nil_append, lc, su]
      rfl)
    (by simp; omega)
  have et := u_tuplel (g_len h (Ob.lst ((List.range b.K).map fun j => .int (stock1 ls j))) G)
  have er : D.tup ((List.range b.K).map fun j => .int (stock1 ls j)) = wsD (stock b.K ls) := by simp [wsD, stock]
  rw [er] at et
  rw [callK_eq t_stock_in]
  refine (run_rt rfl ?_).trans (gc_app (g := .lst ((List.range b.K).map fun j => .int (stock1 ls j)) :: G) (wsD_gr _))
  simp only [R_stock_in, F_stock_in, u_seq, u_asg, u_call, u_exp, u_if, u_ret, u_setS, u_par, u_nx, nxt_nx, nxt_rt, u_list, u_list0, u_var, u_con, u_bin, u_un1, u_and, u_or, u_chain, u_ite, u_blt, u_tup, u_lst, u_slc, u_opt, u_opt0, im_int, u_nm, u_tgs, u_tgs0, u_tupT, List.getElem?_cons_succ, List.getElem?_cons_zero, bind_ok, thenS_ok, thenI_ok, List.length_cons, List.length_nil, Nat.reduceAdd, Nat.reduceSub, Nat.reduceLT, Nat.reduceLeDiff, Nat.zero_le, if_true, om_some, List.set_cons_succ, List.set_cons_zero, bm_bl, Bool.not_true, Bool.not_false, Bool.false_eq_true, if_false, u_add, u_sub, u_neg, u_not, u_lt, u_le, u_gt, u_ge, u_eqI, u_neI, decide_true, decide_false, u_int, u_intb, methF, List.map_cons, List.map_nil, List.replicate, List.cons_append, List.nil_append, e, et]
theorem p_stock_by (k m : Nat) (hm : m ≤ b.ds.length) (h : Hv) : callK T (k + 11) "stock_by" [b.d, .int m] h = .ok (wsD (stock b.K (b.st m).ls)) h := by
  have e1 := p_need_done c hn k h
  have e2 := p_need_many (b := b) k m hm h
  have e3 := p_after c hn (k + 1) m hm h
  have e4 := p_stock_in c hn (k + 9) m h
  rw [callK_eq t_stock_by]
  refine (run_rt rfl ?_).trans gc_same
  simp only [R_stock_by, F_stock_by, u_seq, u_asg, u_call, u_exp, u_if, u_ret, u_setS, u_par, u_nx, nxt_nx, nxt_rt, u_list, u_list0, u_var, u_con, u_bin, u_un1, u_and, u_or, u_chain, u_ite, u_blt, u_tup, u_lst, u_slc, u_opt, u_opt0, im_int, u_nm, u_tgs, u_tgs0, u_tupT, List.getElem?_cons_succ, List.getElem?_cons_zero, bind_ok, thenS_ok, thenI_ok, List.length_cons, List.length_nil, Nat.reduceAdd, Nat.reduceSub, Nat.reduceLT, Nat.reduceLeDiff, Nat.zero_le, if_true, om_some, List.set_cons_succ, List.set_cons_zero, bm_bl, Bool.not_true, Bool.not_false, Bool.false_eq_true, if_false, u_add, u_sub, u_neg, u_not, u_lt, u_le, u_gt, u_ge, u_eqI, u_neI, decide_true, decide_false, u_int, u_intb, methF, List.map_cons, List.map_nil, List.replicate, List.cons_append, List.nil_append, e1, e2, e3, e4]
end

/-! shares stay a whole -/
theorem sum_setR : ∀ (ss : List Rat) (p : Nat) (x : Rat), p < ss.length → (ss.set p x).sum = ss.sum - ss.getD p 0 + x
  | s :: ss, 0, x, _ => by simp; grind
  | s :: ss, p + 1, x, h => by
    have := sum_setR ss p x (by simpa using h)
    simp only [List.set_cons_succ, List.sum_cons, List.getD_cons_succ, this]
    grind
theorem sum_soS {p q : Nat} {part : Rat} {ss : List Rat} (hpq : p ≠ q) (hp : p < ss.length) (hq : q < ss.length) : (soS p q part ss).sum = ss.sum := by
  rw [soS, sum_setR _ q _ (by simpa using hq), sum_setR _ p _ hp]
  have : (ss.set p (ss.getD p 0 - ss.getD p 0 * part)).getD q 0 = ss.getD q 0 := by
    simp [List.getElem?_set_ne hpq]
  rw [this]
  grind
theorem sum_borne (p : Rat) : ∀ (ss os : List Rat), ss.length = os.length → (borne p os ss).sum = ss.sum * (1 - p) + os.sum * p
  | [], [], _ => by simp [borne]; grind
  | s :: ss, o :: os, h => by
    have := sum_borne p ss os (by simpa using h)
    simp only [borne, List.zip_cons_cons, List.map_cons, List.sum_cons] at this ⊢
    rw [this]
    grind
  | [], _ :: _, h => by simp at h
  | _ :: _, [], h => by simp at h
theorem sum_plS (n m : Int) : ∀ (ss ts : List Rat), ss.length = ts.length → (plS n m ss ts).sum = ((n : Rat) * ss.sum + (m : Rat) * ts.sum) * mkRat 1 (n + m).toNat
  | [], [], _ => by simp [plS]; grind
  | s :: ss, o :: os, h => by
    have := sum_plS n m ss os (by simpa using h)
    simp only [plS, List.zip_cons_cons, List.map_cons, List.sum_cons] at this ⊢
    rw [this]
    grind
  | [], _ :: _, h => by simp at h
  | _ :: _, [], h => by simp at h
theorem sum_ind (p : Nat) : ∀ (P : Nat), ((List.range P).map fun i => if i = p then (1 : Rat) else 0).sum = if p < P then 1 else 0
  | 0 => by simp
  | P + 1 => by
    rw [List.range_succ, List.map_append, List.sum_append, sum_ind p P]
    simp only [List.map_cons, List.map_nil, List.sum_cons, List.sum_nil]
    by_cases h : p < P
    · rw [if_pos h, if_neg (by omega), if_pos (by omega)]; grind
    · by_cases e : P = p
      · rw [if_neg h, if_pos e, if_pos (by omega)]; grind
      · rw [if_neg h, if_neg e, if_neg (by omega)]; grind
theorem mkRat_inv (w : Nat) (h : 0 < w) : (w : Rat) * mkRat 1 w = 1 := by
  rw [Rat.mkRat_eq_div]
  have : ((w : Nat) : Rat) ≠ 0 := by exact_mod_cast Nat.ne_of_gt h
  grind
structure One (s : Sta) : Prop where
  ls : ∀ l ∈ s.ls, l.sh.sum = 1
  hs : s.hs.sum = 1
theorem after1_one {P K t M : Nat} {B : Int} {s : Sta} (g : Good P K t M s) (o : One s) {d : Dd} (c : Can P K s d) : One (after1 P B s d) := by
  have less : ∀ {a : Nat} {m : Int} {x : Ld}, a < s.ls.length → x ∈ lessL s.ls a (at_ s.ls a) m → x.sh.sum = 1 ∧ x.sh.length = P := fun ha hx => by
    rcases mem_less hx with h | rfl
    · exact ⟨o.ls _ h, (g.sh _ h).1⟩
    · exact ⟨o.ls (at_ s.ls _) (at_mem ha), (g.sh _ (at_mem ha)).1⟩
  cases d with
  | bring p k n =>
    refine ⟨fun l hl => ?_, o.hs⟩
    rcases List.mem_append.1 (show l ∈ s.ls ++ _ from hl) with h | h
    · exact o.ls l h
    · rw [List.mem_singleton.1 h]
      show (brS P p).sum = 1
      rw [brS, sum_ind, if_pos c.1]
  | pool a b =>
    obtain ⟨hab, ha, hb, n1, n2, hk⟩ := c
    refine ⟨fun l hl => ?_, o.hs⟩
    rcases List.mem_append.1 (show l ∈ lessL (lessL s.ls a (at_ s.ls a) (at_ s.ls a).n) b (at_ s.ls b) (at_ s.ls b).n ++ _ from hl) with h | h
    · rcases mem_less h with h | rfl
      · exact (less ha h).1
      · exact o.ls (at_ s.ls b) (at_mem hb)
    · rw [List.mem_singleton.1 h]
      show (plS _ _ _ _).sum = 1
      rw [sum_plS _ _ _ _ (by rw [(g.sh _ (at_mem ha)).1, (g.sh _ (at_mem hb)).1]), o.ls _ (at_mem ha), o.ls _ (at_mem hb)]
      generalize (at_ s.ls a).n = x at *
      generalize (at_ s.ls b).n = y at *
      obtain ⟨w, hw⟩ := Int.eq_ofNat_of_zero_le (a := x + y) (by omega)
      have : (x + y).toNat = w := by omega
      rw [this, Rat.mul_one, Rat.mul_one, ← Rat.intCast_add, hw]
      exact mkRat_inv w (by omega)
  | swap a gv k n =>
    refine ⟨fun l hl => ?_, o.hs⟩
    rcases List.mem_append.1 (show l ∈ lessL s.ls a (at_ s.ls a) gv ++ _ from hl) with h | h
    · exact (less c.1 h).1
    · rw [List.mem_singleton.1 h]; exact o.ls (at_ s.ls a) (at_mem c.1)
  | trade no a gv k n =>
    refine ⟨fun l hl => ?_, o.hs⟩
    rcases List.mem_append.1 (show l ∈ lessL s.ls a (at_ s.ls a) gv ++ _ from hl) with h | h
    · exact (less c.2.1 h).1
    · rw [List.mem_singleton.1 h]; exact o.ls (at_ s.ls a) (at_mem c.2.1)
  | spoil a n => exact ⟨fun l hl => (less c.1 hl).1, o.hs⟩
  | throw a n ws w =>
    have so := o.ls _ (at_mem c.1)
    have lo := (g.sh _ (at_mem c.1)).1
    refine ⟨fun l hl => ?_, ?_⟩
    · obtain ⟨l', hl', rfl⟩ := List.mem_map.1 hl
      obtain ⟨h1, h2⟩ := less c.1 hl'
      show (borne _ _ _).sum = 1
      rw [sum_borne _ _ _ (by rw [h2, lo]), h1, so]
      grind
    · show (borne _ _ _).sum = 1
      rw [sum_borne _ _ _ (by rw [g.hs.1, lo]), o.hs, so]
      grind
  | sell p q part =>
    obtain ⟨hpq, hp, hq, _⟩ := c
    refine ⟨fun l hl => ?_, ?_⟩
    · obtain ⟨l', hl', rfl⟩ := List.mem_map.1 hl
      show (soS _ _ _ _).sum = 1
      rw [sum_soS hpq (by rw [(g.sh _ hl').1]; exact hp) (by rw [(g.sh _ hl').1]; exact hq)]
      exact o.ls _ hl'
    · show (soS _ _ _ _).sum = 1
      rw [sum_soS hpq (by rw [g.hs.1]; exact hp) (by rw [g.hs.1]; exact hq)]
      exact o.hs
theorem ones {P K : Nat} {B : Int} (hB : 1 ≤ B ∧ B ≤ 20) : ∀ (ds : List Dd) {s : Sta} {t M : Nat}, Good P K t M s → t + ds.length ≤ 17 → Cans P K B s ds → One s → One (runS P B s ds)
  | [], s, t, M, g, _, _, o => o
  | d :: ds, s, t, M, g, hl, c, o => by
    simp only [List.length_cons] at hl
    obtain ⟨M1, g1⟩ := step_good g (by omega) hB c.1
    exact ones hB ds g1 (by omega) c.2 (after1_one g o c.1)
theorem BkC.ones {n : Nat} {b : Bk} (c : BkC n b) (hn : n ≤ 17) (m : Nat) : One (b.st m) := by
  obtain ⟨M, g⟩ := c.good
  have hc := c.cans
  rw [← List.take_append_drop m b.ds] at hc
  have hl := c.len
  exact VM.ones c.B (b.ds.take m) g (by simp; omega) (cans_app.1 hc).1 ⟨c.toBkT.one, c.hold.2⟩
/-- all of it is there: of a whole the parts together -/
theorem sum_range_add (P : Nat) (f g : Nat → Rat) : ((List.range P).map fun i => f i + g i).sum = ((List.range P).map f).sum + ((List.range P).map g).sum := by
  induction P with
  | zero => simp; grind
  | succ P ih =>
    rw [List.range_succ, List.map_append, List.map_append, List.map_append, List.sum_append, List.sum_append, List.sum_append, ih]
    simp only [List.map_cons, List.map_nil, List.sum_cons, List.sum_nil]
    grind
theorem sum_getD (c : Rat) : ∀ (ss : List Rat), ((List.range ss.length).map fun i => c * ss.getD i 0).sum = c * ss.sum
  | [] => by simp
  | s :: ss => by
    rw [List.length_cons, List.range_succ_eq_map, List.map_cons, List.map_map, List.sum_cons, List.sum_cons]
    have : (List.range ss.length).map ((fun i => c * (s :: ss).getD i 0) ∘ Nat.succ) = (List.range ss.length).map fun i => c * ss.getD i 0 := by
      apply List.map_congr_left; intro i _; simp
    rw [this, sum_getD c ss]
    simp; grind
theorem all_theirs {P : Nat} (kd : Nat) : ∀ (ls : List Ld), (∀ l ∈ ls, l.sh.sum = 1 ∧ l.sh.length = P) → ((List.range P).map fun p => theirs1 ls p kd).sum = (stock1 ls kd : Rat)
  | [], _ => by
    have : ∀ n : Nat, ((List.range n).map fun _ => (0 : Rat)).sum = 0 := by
      intro n
      induction n with
      | zero => simp
      | succ n ih => rw [List.range_succ, List.map_append, List.sum_append, ih]; simp; grind
    simpa [theirs1, stock1] using this P
  | l :: ls, h => by
    have ih := all_theirs kd ls fun x hx => h x (by simp [hx])
    obtain ⟨h1, h2⟩ := h l (by simp)
    by_cases e : (l.k : Int) = kd
    · have q1 : ∀ p, theirs1 (l :: ls) p kd = (l.n : Rat) * l.sh.getD p 0 + theirs1 ls p kd := fun p => by simp [theirs1, List.filter_cons, e]
      have q2 : stock1 (l :: ls) kd = l.n + stock1 ls kd := by simp [stock1, List.filter_cons, e]
      have := sum_getD (l.n : Rat) l.sh
      rw [h2, h1, Rat.mul_one] at this
      simp only [q1]
      rw [sum_range_add, ih, this, q2, Rat.intCast_add]
    · have q1 : ∀ p, theirs1 (l :: ls) p kd = theirs1 ls p kd := fun p => by simp [theirs1, List.filter_cons, e]
      have q2 : stock1 (l :: ls) kd = stock1 ls kd := by simp [stock1, List.filter_cons, e]
      simp only [q1, q2, ih]

theorem StatesAt.ext {h : Hv} {b : Bk} {sp : Nat} {f : Nat → Nat} {j : Nat} (s : StatesAt h b sp f j) (e : Hv) : StatesAt (h ++ e) b sp f j :=
  ⟨row_old s.top, fun m hm => row_old (s.row m hm)⟩
theorem am_int (n : Int) : D.tup [.int n, .int 1] = am (n : Rat) := rfl
/-- a def that makes lists that nobody sees -/
theorem fn_app {f : Str} {r : FnRec} {k : Nat} {args : List D} {h g : Hv} {d : D} (t : T f = some r) (hn : args.length = r.np) (hb : r.body (callK T k) (args.map some ++ List.replicate (r.nl - r.np) none) h = .rt d (h ++ g)) (hd : d.gr = true) : callK T (k + 1) f args h = .ok d h := by
  rw [callK_eq t]
  exact (run_rt hn hb).trans (gc_app hd)
theorem fn_same {f : Str} {r : FnRec} {k : Nat} {args : List D} {h : Hv} {d : D} (t : T f = some r) (hn : args.length = r.np) (hb : r.body (callK T k) (args.map some ++ List.replicate (r.nl - r.np) none) h = .rt d h) : callK T (k + 1) f args h = .ok d h := by
  rw [callK_eq t]
  exact (run_rt hn hb).trans gc_same
theorem fn_none {f : Str} {r : FnRec} {k : Nat} {args : List D} {h : Hv} {e : Env} (t : T f = some r) (hn : args.length = r.np) (hb : r.body (callK T k) (args.map some ++ List.replicate (r.nl - r.np) none) h = .nx e h) : callK T (k + 1) f args h = .ok .non h := by
  rw [callK_eq t]
  exact (run_nx hn hb).trans gc_same
/-- a def that hands out a list of what has no list within -/
theorem fn_list {f : Str} {r : FnRec} {k : Nat} {args : List D} {h g : Hv} {ds : List D} {i : Nat} (t : T f = some r) (hn : args.length = r.np) (hb : r.body (callK T k) (args.map some ++ List.replicate (r.nl - r.np) none) h = .rt (.ref (h.length + i)) (h ++ g)) (hi : g[i]? = some (.lst ds)) (hd : D.grs ds = true) : callK T (k + 1) f args h = .ok (.ref h.length) (h ++ [.lst ds]) := by
  rw [callK_eq t]
  exact (run_rt hn hb).trans (gc_ref rfl (fun _ _ => .inl rfl) hi hd)
theorem amr (xs : List Rat) : D.grs (xs.map am) = true := shD_gr xs
/-- what does not hang on shares -/
def Alike (s u : Sta) : Prop := s.ls.map (fun l => (l.k, l.n)) = u.ls.map (fun l => (l.k, l.n)) ∧ s.nums = u.nums
theorem Alike.refl (s : Sta) : Alike s s := ⟨rfl, rfl⟩
theorem Alike.len {s u : Sta} (a : Alike s u) : s.ls.length = u.ls.length := by simpa using congrArg List.length a.1
theorem Alike.at {s u : Sta} (a : Alike s u) (i : Nat) : (at_ s.ls i).k = (at_ u.ls i).k ∧ (at_ s.ls i).n = (at_ u.ls i).n := by
  by_cases hi : i < s.ls.length
  · have h1 := congrArg (·[i]?) a.1
    simp only [List.getElem?_map] at h1
    rw [at_some hi, at_some (by rw [← a.len]; exact hi)] at h1
    simpa using h1
  · have hi2 : ¬ i < u.ls.length := by rw [← a.len]; exact hi
    simp [at_, hi, hi2]
theorem Alike.can {P K : Nat} {s u : Sta} (a : Alike s u) {d : Dd} (c : Can P K s d) : Can P K u d := by
  have l := a.len
  cases d with
  | bring p k n => exact c
  | pool i j =>
    obtain ⟨c1, c2, c3, c4, c5, c6⟩ := c
    have x := a.at i
    have y := a.at j
    exact ⟨c1, by omega, by omega, by omega, by omega, by omega⟩
  | swap i g k n =>
    obtain ⟨c1, c2, c3, c4, c5, c6⟩ := c
    have x := a.at i
    exact ⟨by omega, c2, by omega, c4, by omega, c6⟩
  | trade no i g k n =>
    obtain ⟨c0, c1, c2, c3, c4, c5, c6⟩ := c
    have x := a.at i
    exact ⟨by rw [← a.2]; exact c0, by omega, c2, by omega, c4, by omega, c6⟩
  | spoil i n =>
    obtain ⟨c1, c2, c3⟩ := c
    have x := a.at i
    exact ⟨by omega, c2, by omega⟩
  | throw i n ws w =>
    obtain ⟨c1, c2, c3, c4⟩ := c
    have x := a.at i
    exact ⟨by omega, c2, by omega, c4⟩
  | sell p q part => exact c
theorem alike_less {s u : List Ld} (a : s.map (fun l => (l.k, l.n)) = u.map (fun l => (l.k, l.n))) (i : Nat) (l l' : Ld) (m m' : Int) (hk : l.k = l'.k) (hm : l.n - m = l'.n - m') : (lessL s i l m).map (fun l => (l.k, l.n)) = (lessL u i l' m').map (fun l => (l.k, l.n)) := by
  simp only [lessL, List.map_set, a, hk, hm]
theorem Alike.after {P : Nat} {B : Int} {s u : Sta} (a : Alike s u) (d : Dd) : Alike (after1 P B s d) (after1 P B u d) := by
  cases d with
  | bring p k n => exact ⟨by simp [after1, a.1], a.2⟩
  | pool i j =>
    have x := a.at i
    have y := a.at j
    refine ⟨?_, a.2⟩
    simp only [after1, List.map_append, List.map_cons, List.map_nil]
    rw [alike_less (alike_less a.1 i _ _ (at_ s.ls i).n (at_ u.ls i).n x.1 (by omega)) j _ _ (at_ s.ls j).n (at_ u.ls j).n y.1 (by omega), x.1, x.2, y.2]
  | swap i g k n =>
    have x := a.at i
    refine ⟨?_, a.2⟩
    simp only [after1, List.map_append, List.map_cons, List.map_nil]
    rw [alike_less a.1 i _ _ g g x.1 (by omega)]
  | trade no i g k n =>
    have x := a.at i
    refine ⟨?_, by simp [after1, a.2]⟩
    simp only [after1, List.map_append, List.map_cons, List.map_nil]
    rw [alike_less a.1 i _ _ g g x.1 (by omega)]
  | spoil i n =>
    have x := a.at i
    exact ⟨alike_less a.1 i _ _ _ _ x.1 (by omega), a.2⟩
  | throw i n ws w =>
    have x := a.at i
    refine ⟨?_, a.2⟩
    simp only [after1, thrL, List.map_map, Function.comp_def]
    exact alike_less a.1 i _ _ _ _ x.1 (by omega)
  | sell p q part => exact ⟨by simp only [after1, solL, List.map_map, Function.comp_def]; exact a.1, a.2⟩
theorem Alike.sell {P : Nat} {B : Int} (s : Sta) (p q : Nat) (part : Rat) : Alike (after1 P B s (.sell p q part)) s := ⟨by simp only [after1, solL, List.map_map, Function.comp_def], rfl⟩
theorem Alike.trans {s u v : Sta} (a : Alike s u) (b : Alike u v) : Alike s v := ⟨a.1.trans b.1, a.2.trans b.2⟩
theorem Alike.symm {s u : Sta} (a : Alike s u) : Alike u s := ⟨a.1.symm, a.2.symm⟩
theorem Alike.cans {P K : Nat} {B : Int} : ∀ {ds : List Dd} {s u : Sta}, Alike s u → Cans P K B s ds → Cans P K B u ds
  | [], _, _, _, _ => trivial
  | d :: ds, _, _, a, c => ⟨a.can c.1, (a.after d).cans c.2⟩
theorem Alike.run {P : Nat} {B : Int} : ∀ (ds : List Dd) {s u : Sta}, Alike s u → Alike (runS P B s ds) (runS P B u ds)
  | [], _, _, a => a
  | d :: ds, _, _, a => Alike.run ds (a.after d)
def Dd.isSell : Dd → Bool
  | .sell .. => true
  | _ => false
theorem BkT.ds {b : Bk} (t : BkT b) (ds : List Dd) : BkT { b with ds := ds } := ⟨t.P, t.K, t.B, t.x, t.y, t.hold, t.one, t.good⟩
theorem st_len (b : Bk) : b.st b.ds.length = runS b.P b.B b.s0 b.ds := by rw [Bk.st, List.take_length]
/-- a book without one of its deeds -/
def Bk.out (b : Bk) (i : Nat) : Bk := { b with ds := b.ds.take i ++ b.ds.drop (i + 1) }
theorem BkC.out {n : Nat} {b : Bk} (c : BkC n b) {i : Nat} (hi : i < b.ds.length) (hs : b.ds[i].isSell = true) : BkC n (b.out i) := by
  have hl := c.len
  refine ⟨c.toBkT.ds _, by simp [Bk.out]; omega, ?_⟩
  have hc := c.cans
  rw [← List.take_append_drop i b.ds, List.drop_eq_getElem_cons hi] at hc
  obtain ⟨h1, h2, h3⟩ := cans_app.1 hc
  refine cans_app.2 ⟨h1, ?_⟩
  cases hd : b.ds[i] with
  | sell p q part =>
    rw [hd] at h3
    exact (Alike.sell _ p q part).cans h3
  | _ => rw [hd] at hs; cases hs

theorem grs_map {α : Type} (f : α → D) (hf : ∀ a, (f a).gr = true) (as : List α) : D.grs (as.map f) = true := by
  induction as with
  | nil => rfl
  | cons a as ih => simp [D.grs, hf, ih]
def Dd.isW (w : Str) (d : Dd) : Bool := d.w == w
theorem Dd.eqW (w : Str) (hw : PyData.strOk w = true) (d : Dd) (h : Hv) : opEqD false (.str d.w) (.str w) h = .ok (.bl (d.isW w)) h :=
  eq_strs (v := d.isW w) d.wok hw rfl false h
theorem Dd.neW (w : Str) (hw : PyData.strOk w = true) (d : Dd) (h : Hv) : opEqD true (.str d.w) (.str w) h = .ok (.bl (!d.isW w)) h :=
  eq_strs (v := d.isW w) d.wok hw rfl true h
theorem Dd.isSellW (d : Dd) : d.isW "sell" = d.isSell := by
  cases d <;> (simp only [Dd.isW, Dd.w, Dd.isSell]; decide +kernel)
theorem Dd.isThrW (d : Dd) : d.isW "throw" = d.isThr := by
  cases d <;> (simp only [Dd.isW, Dd.w, Dd.isThr]; decide +kernel)
theorem Bk.ix0 (b : Bk) (h : Hv) : opIx b.d (.int 0) h = .ok b.tr h := by simp [Bk.d, bookD]
theorem Bk.ix1 (b : Bk) (h : Hv) : opIx b.d (.int 1) h = .ok (lsD b.ls) h := by simp [Bk.d, bookD]
theorem Bk.ix2 (b : Bk) (h : Hv) : opIx b.d (.int 2) h = .ok (.tup (b.ds.map Dd.d)) h := by simp [Bk.d, bookD]
theorem Bk.tr0 (b : Bk) (h : Hv) : opIx b.tr (.int 0) h = .ok (.int b.P) h := by simp [Bk.tr, trD]
theorem Bk.tr1 (b : Bk) (h : Hv) : opIx b.tr (.int 1) h = .ok (.int b.K) h := by simp [Bk.tr, trD]
theorem ix_ds {ds : List Dd} {i : Nat} (hi : i < ds.length) (h : Hv) : opIx (.tup (ds.map Dd.d)) (.int i) h = .ok ds[i].d h := by
  rw [ix_tup, at_nat, List.getElem?_map, List.getElem?_eq_getElem hi]; rfl
theorem len_ds (ds : List Dd) (h : Hv) : bLen [.tup (ds.map Dd.d)] h = .ok (.int ds.length) h := by simp
theorem sl_lo (ds : List Dd) (i : Nat) (h : Hv) : opSl (.tup (ds.map Dd.d)) none (some (i : Int)) h = .ok (.tup ((ds.take i).map Dd.d)) h := by
  simp only [opSl, cut_lo, List.map_take]
theorem sl_hi (ds : List Dd) (i : Nat) (h : Hv) : opSl (.tup (ds.map Dd.d)) (some ((i : Int) + 1)) none h = .ok (.tup ((ds.drop (i + 1)).map Dd.d)) h := by
  have := cut_hi (ds.map Dd.d) (i + 1)
  rw [Int.natCast_add] at this
  simp only [opSl, List.map_drop]
  rw [← this]; rfl
theorem add_tup {xs ys : List D} (hl : xs.length + ys.length ≤ 900) (h : Hv) : opAdd (.tup xs) (.tup ys) h = .ok (.tup (xs ++ ys)) h := by
  rw [u_addT, if_pos (by omega)]
def subs (xs ys : List Rat) : List Rat := (xs.zip ys).map fun x => x.1 - x.2
theorem theirs_fit {n : Nat} {b : Bk} (c : BkC n b) (hn : n ≤ 17) (m : Nat) {p : Nat} (hp : p < b.P) : ∀ x ∈ theirs b.K (b.st m).ls p, Fit x := by
  obtain ⟨M, F⟩ := c.facts hn m
  intro x hx
  obtain ⟨i, hi, rfl⟩ := List.mem_map.1 hx
  refine (Bn.sum F.M0 _ (F.theirs1 hp i)).fit F.M0 (m_bd F.M1) ?_
  have : ((b.st m).ls.filter fun l => decide ((l.k : Int) = i)).length ≤ 21 := Nat.le_trans (List.length_filter_le ..) F.len
  rw [List.length_map]
  exact Nat.lt_of_le_of_lt (Nat.mul_le_mul_right _ this) (Nat.lt_of_lt_of_le (show 21 * 2 ^ 157 < 2 ^ 170 by decide) (Nat.pow_le_pow_right (by decide) (by decide)))
section
variable {n : Nat} {b : Bk} (c : BkC n b) (hn : n ≤ 17)
include c hn
theorem p_need_sale (k i : Nat) (hi : i < b.ds.length) (hs : b.ds[i].isSell = true) (h : Hv) : callK T (k + 3) "need_sale" [b.d, .int i] h = .ok .non h := by
  have iw := is_within_ok k i 0 ((b.ds.length : Int) - 1) h (by omega) (by omega)
  refine fn_none (e := [some b.d, some (.int i)]) t_need_sale rfl ?_
  simp only [R_need_sale, F_need_sale, u_seq, u_asg, u_call, u_exp, u_if, u_ret, u_setS, u_par, u_nx, nxt_nx, nxt_rt, u_list, u_list0, u_var, u_con, u_bin, u_un1, u_and, u_or, u_chain, u_ite, u_blt, u_tup, u_lst, u_slc, u_opt, u_opt0, im_int, u_nm, u_tgs, u_tgs0, u_tupT, List.getElem?_cons_succ, List.getElem?_cons_zero, bind_ok, thenS_ok, thenI_ok, List.length_cons, List.length_nil, Nat.reduceAdd, Nat.reduceSub, Nat.reduceLT, Nat.reduceLeDiff, Nat.zero_le, if_true, om_some, List.set_cons_succ, List.set_cons_zero, bm_bl, Bool.not_true, Bool.not_false, Bool.false_eq_true, if_false, u_add, u_sub, u_neg, u_not, u_lt, u_le, u_gt, u_ge, u_eqI, u_neI, decide_true, decide_false, u_int, u_intb, methF, List.map_cons, List.map_nil, List.replicate, List.cons_append, List.nil_append, b.ix2, len_ds, iw, ix_ds hi, Dd.ix0, Dd.neW "sell" (by decide +kernel), Dd.isSellW, hs]
omit hn in
theorem p_left_out (k i : Nat) (hl : n ≤ 17) (h : Hv) : callK T (k + 1) "left_out" [b.d, .int i] h = .ok (b.out i).d h := by
  have cl := c.len
  refine fn_same t_left_out rfl ?_
  have un : ∀ (env : Env) (h : Hv), tupT [nmT 2, nmT 3, nmT 4] b.d env h = tgsT [nmT 2, nmT 3, nmT 4] [b.tr, lsD b.ls, .tup (b.ds.map Dd.d)] env h := fun _ _ => rfl
  have ad := add_tup (xs := (b.ds.take i).map Dd.d) (ys := (b.ds.drop (i + 1)).map Dd.d) (by simp; omega) h
  rw [← List.map_append] at ad
  simp only [R_left_out, F_left_out, u_seq, u_asg, u_call, u_exp, u_if, u_ret, u_setS, u_par, u_nx, nxt_nx, nxt_rt, u_list, u_list0, u_var, u_con, u_bin, u_un1, u_and, u_or, u_chain, u_ite, u_blt, u_tup, u_lst, u_slc, u_opt, u_opt0, im_int, u_nm, u_tgs, u_tgs0, u_tupT, List.getElem?_cons_succ, List.getElem?_cons_zero, bind_ok, thenS_ok, thenI_ok, List.length_cons, List.length_nil, Nat.reduceAdd, Nat.reduceSub, Nat.reduceLT, Nat.reduceLeDiff, Nat.zero_le, if_true, om_some, List.set_cons_succ, List.set_cons_zero, bm_bl, Bool.not_true, Bool.not_false, Bool.false_eq_true, if_false, u_add, u_sub, u_neg, u_not, u_lt, u_le, u_gt, u_ge, u_eqI, u_neI, decide_true, decide_false, u_int, u_intb, methF, List.map_cons, List.map_nil, List.replicate, List.cons_append, List.nil_append, un, sl_lo, sl_hi, ad]
  rfl
theorem p_unsold (k i : Nat) (hi : i < b.ds.length) (hs : b.ds[i].isSell = true) (h : Hv) : callK T (k + 11) "unsold" [b.d, .int i] h = .ok (b.out i).d h := by
  refine fn_same t_unsold rfl ?_
  simp only [R_unsold, F_unsold, u_seq, u_asg, u_call, u_exp, u_if, u_ret, u_setS, u_par, u_nx, nxt_nx, nxt_rt, u_list, u_list0, u_var, u_con, u_bin, u_un1, u_and, u_or, u_chain, u_ite, u_blt, u_tup, u_lst, u_slc, u_opt, u_opt0, im_int, u_nm, u_tgs, u_tgs0, u_tupT, List.getElem?_cons_succ, List.getElem?_cons_zero, bind_ok, thenS_ok, thenI_ok, List.length_cons, List.length_nil, Nat.reduceAdd, Nat.reduceSub, Nat.reduceLT, Nat.reduceLeDiff, Nat.zero_le, if_true, om_some, List.set_cons_succ, List.set_cons_zero, bm_bl, Bool.not_true, Bool.not_false, Bool.false_eq_true, if_false, u_add, u_sub, u_neg, u_not, u_lt, u_le, u_gt, u_ge, u_eqI, u_neI, decide_true, decide_false, u_int, u_intb, methF, List.map_cons, List.map_nil, List.replicate, List.cons_append, List.nil_append, p_need_done c hn k h, p_need_sale c hn (k + 7) i hi hs, p_left_out c (k + 9) i hn]
end

theorem for_ret {C : Or} {tg : TF} {body : SF} {gs : Guards} (I : Env → Hv → Prop) (Q : D → Hv → Prop) : ∀ (xs : List D)
    (hg : ∀ env h, I env h → guardsOk gs h = true)
    (hs : ∀ x ∈ xs, ∀ env h, I env h → ∃ env1, tg x env h = some env1 ∧ ((∃ env2 h2, body C env1 h = .nx env2 h2 ∧ I env2 h2) ∨ ∃ d h2, body C env1 h = .rt d h2 ∧ Q d h2))
    (env : Env) (h : Hv), I env h → (∃ env' h', forL C tg body gs xs env h = .nx env' h' ∧ I env' h') ∨ ∃ d h', forL C tg body gs xs env h = .rt d h' ∧ Q d h'
  | [], hg, hs, env, h, p => .inl ⟨env, h, by simp [forL, hg _ _ p], p⟩
  | x :: xs, hg, hs, env, h, p => by
    obtain ⟨env1, e1, q⟩ := hs x (by simp) env h p
    rcases q with ⟨env2, h2, e2, p2⟩ | ⟨d, h2, e2, q2⟩
    · rcases for_ret I Q xs hg (fun y hy => hs y (by simp [hy])) env2 h2 p2 with ⟨env', h', e3, p3⟩ | ⟨d, h', e3, q3⟩
      · exact .inl ⟨env', h', by rw [forL, if_pos (hg _ _ p)]; simp only [e1, e2, e3], p3⟩
      · exact .inr ⟨d, h', by rw [forL, if_pos (hg _ _ p)]; simp only [e1, e2, e3], q3⟩
    · exact .inr ⟨d, h2, by rw [forL, if_pos (hg _ _ p)]; simp only [e1, e2], q2⟩
theorem fl_ws (n : Nat) (ws : List Int) : D.fl (n + 1) (wsD ws) = true := by
  simp only [wsD, D.fl]
  exact fls_map _ _ (fun i => by cases n <;> rfl) ws
theorem fl_dd (n : Nat) (d : Dd) : D.fl (n + 3) d.d = true := by
  have s : ∀ m, ∀ d : Dd, D.fl m (.str d.w) = true := fun m d => by cases m <;> exact d.wok
  cases d with
  | bring p k x => have := s (n + 2) (.bring p k x); simp [Dd.d, brD, D.fl, D.fls] at this ⊢; exact this
  | pool a b => have := s (n + 2) (.pool a b); simp [Dd.d, poD, D.fl, D.fls] at this ⊢; exact this
  | swap a g k x => have := s (n + 2) (.swap a g k x); simp [Dd.d, swD, D.fl, D.fls] at this ⊢; exact this
  | trade no a g k x => have := s (n + 2) (.trade no a g k x); simp [Dd.d, traD, D.fl, D.fls] at this ⊢; exact this
  | spoil a x => have := s (n + 2) (.spoil a x); simp [Dd.d, spD, D.fl, D.fls] at this ⊢; exact this
  | throw a x ws w => have := s (n + 2) (.throw a x ws w); simp [Dd.d, thD, D.fl, D.fls, fl_ws] at this ⊢; exact this
  | sell p q part => have := s (n + 2) (.sell p q part); simp [Dd.d, slD, D.fl, D.fls, fl_am] at this ⊢; exact this
theorem eq_nilL {h : Hv} {p q : Nat} {ds : List D} (hp : h[p]? = some (.lst ds)) (hq : h[q]? = some (.lst [])) (hf : D.fls 59 ds = true) (neg : Bool) : opEqD neg (.ref p) (.ref q) h = .ok (.bl (if neg then !decide (ds = []) else decide (ds = []))) h := by
  have e := toPs_fl h 59 ds hf
  have e1 : toP h 60 (.ref p) = some (.list (D.pds ds)) := by simp only [toP, hp, e, Option.map_some]
  have e2 : toP h 60 (.ref q) = some (.list []) := by simp [toP, hq, toPs]
  have e3 : PyData.eqv (.list (D.pds ds)) (.list []) = decide (ds = []) := by
    cases ds with
    | nil => simp [D.pds, PyData.eqv, PyData.eqvAll]
    | cons a ns => simp [D.pds, PyData.eqv, PyData.eqvAll]
  simp only [opEqD, e1, e2, e3]
/-- a book looked for some times -/
theorem _law_book_of_ok (k n : Nat) (w : Str) (hw : PyData.strOk w = true) (h0 : Hv) (pen : List D) (g : Hv) (hn : n ≤ 16) (hpn : PenOk pen) :
    ∃ (b : Bk) (pen' : List D), BkOk n b ∧ PenOk pen' ∧ callK T (k + 9) "_law_book_of" [.ref h0.length, .int n, .str w] (hp h0 pen g) = .ok b.d (hp h0 pen' g) := by
  obtain ⟨b1, p1, c1, hp1, e1⟩ := _law_book_ok k n h0 pen g hn hpn
  have loop := for_ret (C := callK T (k + 8)) (tg := nmT 4) (body := F__law_book_of_b1) (gs := [])
    (fun env h => ∃ b pen' e z4, BkOk n b ∧ PenOk pen' ∧ env = [some (.ref h0.length), some (.int n), some (.str w), some b.d, z4, none] ∧ h = hp h0 pen' (g ++ e))
    (fun d h => ∃ b pen' e, BkOk n b ∧ PenOk pen' ∧ d = b.d ∧ h = hp h0 pen' (g ++ e))
    ((List.range 5).map fun i => .int (i : Nat)) (fun _ _ _ => rfl)
    (by
      rintro x hx env h ⟨b, pen', e, z4, c, hpn', rfl, rfl⟩
      have cl := c.len
      refine ⟨_, rfl, ?_⟩
      have lc := lc_pure (C := callK T (k + 8)) (env := [some (.ref h0.length), some (.int n), some (.str w), some (b.d), some (x), none]) (it := (itE (binF opIx (varF 3) (conF (.int 2))))) (tg := (nmT 5)) (own := [5]) (elt := (varF 5)) (t := (binF (opEqD false) (binF opIx (varF 5) (conF (.int 0))) (varF 2)))
        (gs := []) (h := hp h0 pen' (g ++ e)) (h1 := hp h0 pen' (g ++ e)) (b.ds) (fun d => d.d) (fun d => d.isW w) (fun d => d.d) (fun d => [some (.ref h0.length), some (.int n), some (.str w), some (b.d), some (x), some (d.d)])
        (itE_t (by simp only [u_seq, u_asg, u_call, u_exp, u_if, u_ret, u_setS, u_par, u_nx, nxt_nx, nxt_rt, u_list, u_list0, u_var, u_con, u_bin, u_un1, u_and, u_or, u_chain, u_ite, u_blt, u_tup, u_lst, u_slc, u_opt, u_opt0, im_int, u_nm, u_tgs, u_tgs0, u_tupT, List.getElem?_cons_succ, List.getElem?_cons_zero, bind_ok, thenS_ok, thenI_ok, List.length_cons, List.length_nil, Nat.reduceAdd, Nat.reduceSub, Nat.reduceLT, Nat.reduceLeDiff, Nat.zero_le, if_true, om_some, List.set_cons_succ, List.set_cons_zero, bm_bl, Bool.not_true, Bool.not_false, Bool.false_eq_true, if_false, u_add, u_sub, u_neg, u_not, u_lt, u_le, u_gt, u_ge, u_eqI, u_neI, decide_true, decide_false, u_int, u_intb, methF, List.map_cons, List.map_nil, List.replicate, List.cons_append, List.nil_append, b.ix2])) (fun _ => rfl) (fun d hd acc => rfl)
        (fun d hd acc => by simp only [u_seq, u_asg, u_call, u_exp, u_if, u_ret, u_setS, u_par, u_nx, nxt_nx, nxt_rt, u_list, u_list0, u_var, u_con, u_bin, u_un1, u_and, u_or, u_chain, u_ite, u_blt, u_tup, u_lst, u_slc, u_opt, u_opt0, im_int, u_nm, u_tgs, u_tgs0, u_tupT, List.getElem?_cons_succ, List.getElem?_cons_zero, bind_ok, thenS_ok, thenI_ok, List.length_cons, List.length_nil, Nat.reduceAdd, Nat.reduceSub, Nat.reduceLT, Nat.reduceLeDiff, Nat.zero_le, if_true, om_some, List.set_cons_succ, List.set_cons_zero, bm_bl, Bool.not_true, Bool.not_false, Bool.false_eq_true, if_false, u_add, u_sub, u_neg, u_not, u_lt, u_le, u_gt, u_ge, u_eqI, u_neI, decide_true, decide_false, u_int, u_intb, methF, List.map_cons, List.map_nil, List.replicate, List.cons_append, List.nil_append, Dd.ix0, Dd.eqW w hw])
        (fun d hd _ acc => by rfl)
        (by omega)
      rw [hp_app] at lc
      have q1 := eq_nilL (p := (hp h0 pen' (g ++ e)).length) (q := (hp h0 pen' (g ++ e ++ [Ob.lst ((b.ds.filter fun d => d.isW w).map Dd.d)])).length) (h := hp h0 pen' (g ++ e ++ [Ob.lst ((b.ds.filter fun d => d.isW w).map Dd.d)]) ++ [.lst []])
        (row_old (by rw [← hp_app]; exact last_at _ _)) (last_at _ _) (fls_map _ _ (fl_dd 56) _) true
      obtain ⟨b2, p2, c2, hp2, e2⟩ := _law_book_ok k n h0 pen' (g ++ e ++ [Ob.lst ((b.ds.filter fun d => d.isW w).map Dd.d)] ++ [.lst []]) hn hpn'
      have lc' : lcF (itE (binF opIx (varF 3) (conF (.int 2)))) (nmT 5) [5] (binF (opEqD false) (binF opIx (varF 5) (conF (.int 0))) (varF 2)) (varF 5) (callK T (k + 8)) [some (.ref h0.length), some (.int n), some (.str w), some b.d, some x, none] (hp h0 pen' (g ++ e)) = .ok (.ref (hp h0 pen' (g ++ e)).length) (hp h0 pen' (g ++ e ++ [Ob.lst ((b.ds.filter fun d => d.isW w).map Dd.d)])) := lc
      by_cases hd : (b.ds.filter fun d => d.isW w).map Dd.d = []
      · left
        refine ⟨_, _, ?_, b2, p2, e ++ [Ob.lst ((b.ds.filter fun d => d.isW w).map Dd.d)] ++ [.lst []], some x, c2, hp2, rfl, rfl⟩
        rw [hp_app] at q1
        rw [hd] at lc' q1 e2 ⊢
        simp only [F__law_book_of_b1, u_seq, u_asg, u_call, u_exp, u_if, u_ret, u_setS, u_par, u_nx, nxt_nx, nxt_rt, u_list, u_list0, u_var, u_con, u_bin, u_un1, u_and, u_or, u_chain, u_ite, u_blt, u_tup, u_lst, u_slc, u_opt, u_opt0, im_int, u_nm, u_tgs, u_tgs0, u_tupT, List.getElem?_cons_succ, List.getElem?_cons_zero, bind_ok, thenS_ok, thenI_ok, List.length_cons, List.length_nil, Nat.reduceAdd, Nat.reduceSub, Nat.reduceLT, Nat.reduceLeDiff, Nat.zero_le, if_true, om_some, List.set_cons_succ, List.set_cons_zero, bm_bl, Bool.not_true, Bool.not_false, Bool.false_eq_true, if_false, u_add, u_sub, u_neg, u_not, u_lt, u_le, u_gt, u_ge, u_eqI, u_neI, decide_true, decide_false, u_int, u_intb, methF, List.map_cons, List.map_nil, List.replicate, List.cons_append, List.nil_append, lc', hp_app, q1, e2]
        simp
      · right
        refine ⟨b.d, _, ?_, b, pen', e ++ [Ob.lst ((b.ds.filter fun d => d.isW w).map Dd.d)] ++ [.lst []], c, hpn', rfl, rfl⟩
        rw [hp_app] at q1
        simp only [F__law_book_of_b1, u_seq, u_asg, u_call, u_exp, u_if, u_ret, u_setS, u_par, u_nx, nxt_nx, nxt_rt, u_list, u_list0, u_var, u_con, u_bin, u_un1, u_and, u_or, u_chain, u_ite, u_blt, u_tup, u_lst, u_slc, u_opt, u_opt0, im_int, u_nm, u_tgs, u_tgs0, u_tupT, List.getElem?_cons_succ, List.getElem?_cons_zero, bind_ok, thenS_ok, thenI_ok, List.length_cons, List.length_nil, Nat.reduceAdd, Nat.reduceSub, Nat.reduceLT, Nat.reduceLeDiff, Nat.zero_le, if_true, om_some, List.set_cons_succ, List.set_cons_zero, bm_bl, Bool.not_true, Bool.not_false, Bool.false_eq_true, if_false, u_add, u_sub, u_neg, u_not, u_lt, u_le, u_gt, u_ge, u_eqI, u_neI, decide_true, decide_false, u_int, u_intb, methF, List.map_cons, List.map_nil, List.replicate, List.cons_append, List.nil_append, lc', hp_app, q1, hd]
        simp)
    [some (.ref h0.length), some (.int n), some (.str w), some b1.d, none, none] (hp h0 p1 g) ⟨b1, p1, [], none, c1, hp1, rfl, by simp⟩
  have gr : ∀ b : Bk, b.d.gr = true := fun b => by simp [Bk.d, bookD, D.gr, D.grs, lsD_gr, ds_gr, Bk.tr, trD, shD_gr]
  have hit : it1F (conF (.int 5)) (callK T (k + 8)) [some (.ref h0.length), some (.int n), some (.str w), some b1.d, none, none] (hp h0 p1 g) = .ok ((List.range 5).map fun i => .int (i : Nat), []) (hp h0 p1 g) := it1_ok (n := 5) rfl (by decide)
  rcases loop with ⟨env', h', e, b, pen', E, z4, c, hpn', rfl, rfl⟩ | ⟨d, h', e, b, pen', E, c, hpn', rfl, rfl⟩
  all_goals
    refine ⟨b, pen', c, hpn', ?_⟩
    rw [callK_eq t__law_book_of]
    refine (run_rt rfl (h' := hp h0 pen' (g ++ E)) ?_).trans (gc_hp (gr b) hpn'.grs)
    simp only [R__law_book_of, F__law_book_of, u_seq, u_asg, u_call, u_exp, u_if, u_ret, u_setS, u_par, u_nx, nxt_nx, nxt_rt, u_list, u_list0, u_var, u_con, u_bin, u_un1, u_and, u_or, u_chain, u_ite, u_blt, u_tup, u_lst, u_slc, u_opt, u_opt0, im_int, u_nm, u_tgs, u_tgs0, u_tupT, List.getElem?_cons_succ, List.getElem?_cons_zero, bind_ok, thenS_ok, thenI_ok, List.length_cons, List.length_nil, Nat.reduceAdd, Nat.reduceSub, Nat.reduceLT, Nat.reduceLeDiff, Nat.zero_le, if_true, om_some, List.set_cons_succ, List.set_cons_zero, bm_bl, Bool.not_true, Bool.not_false, Bool.false_eq_true, if_false, u_add, u_sub, u_neg, u_not, u_lt, u_le, u_gt, u_ge, u_eqI, u_neI, decide_true, decide_false, u_int, u_intb, methF, List.map_cons, List.map_nil, List.replicate, List.cons_append, List.nil_append, e1, u_for, hit, e]
theorem _law_places_ok (k n : Nat) (w : Str) (hw : PyData.strOk w = true) (b : Bk) (hn : b.ds.length ≤ 900) (h : Hv) :
    ∃ ps : List Nat, (∀ i ∈ ps, ∃ hi : i < b.ds.length, b.ds[i].isW w = true) ∧ callK T (k + 1) "_law_places" [b.d, .str w] h = .ok (.ref h.length) (h ++ [.lst (ps.map fun i => .int (i : Nat))]) := by
  let pr : Nat → Bool := fun i => match b.ds[i]? with
    | some d => d.isW w
    | none => false
  have lc := lc_pure (C := callK T k) (env := [some (b.d), some (.str w), none, none]) (it := (itN (binF opIx (varF 0) (conF (.int 2))))) (tg := (tupT [(nmT 2), (nmT 3)])) (own := [2, 3]) (elt := (varF 2)) (t := (binF (opEqD false) (binF opIx (varF 3) (conF (.int 0))) (varF 1)))
    (gs := []) (h := h) (h1 := h) (List.range b.ds.length) (fun i => .tup [.int (i : Nat), (b.ds.map Dd.d).getD i .non]) (fun i => pr i) (fun i => .int (i : Nat)) (fun i => [some (b.d), some (.str w), some (.int (i : Nat)), some ((b.ds.map Dd.d).getD i .non)])
    (by have := itN_t (C := callK T k) (env := [some (b.d), some (.str w), none, none]) (a := (binF opIx (varF 0) (conF (.int 2)))) (h := h) (ds := b.ds.map Dd.d) (by simp only [u_seq, u_asg, u_call, u_exp, u_if, u_ret, u_setS, u_par, u_nx, nxt_nx, nxt_rt, u_list, u_list0, u_var, u_con, u_bin, u_un1, u_and, u_or, u_chain, u_ite, u_blt, u_tup, u_lst, u_slc, u_opt, u_opt0, im_int, u_nm, u_tgs, u_tgs0, u_tupT, List.getElem?_cons_succ, List.getElem?_cons_zero, bind_ok, thenS_ok, thenI_ok, List.length_cons, List.length_nil, Nat.reduceAdd, Nat.reduceSub, Nat.reduceLT, Nat.reduceLeDiff, Nat.zero_le, if_true, om_some, List.set_cons_succ, List.set_cons_zero, bm_bl, Bool.not_true, Bool.not_false, Bool.false_eq_true, if_false, u_add, u_sub, u_neg, u_not, u_lt, u_le, u_gt, u_ge, u_eqI, u_neI, decide_true, decide_false, u_int, u_intb, methF, List.map_cons, List.map_nil, List.replicate, List.cons_append, List.nil_append, b.ix2]); rw [this, List.length_map]) (fun _ => rfl) (fun i hi acc => rfl)
    (fun i hi acc => by
        have hi := List.mem_range.1 hi
        have : (b.ds.map Dd.d).getD i .non = b.ds[i].d := by simp [hi]
        simp only [u_seq, u_asg, u_call, u_exp, u_if, u_ret, u_setS, u_par, u_nx, nxt_nx, nxt_rt, u_list, u_list0, u_var, u_con, u_bin, u_un1, u_and, u_or, u_chain, u_ite, u_blt, u_tup, u_lst, u_slc, u_opt, u_opt0, im_int, u_nm, u_tgs, u_tgs0, u_tupT, List.getElem?_cons_succ, List.getElem?_cons_zero, bind_ok, thenS_ok, thenI_ok, List.length_cons, List.length_nil, Nat.reduceAdd, Nat.reduceSub, Nat.reduceLT, Nat.reduceLeDiff, Nat.zero_le, if_true, om_some, List.set_cons_succ, List.set_cons_zero, bm_bl, Bool.not_true, Bool.not_false, Bool.false_eq_true, if_false, u_add, u_sub, u_neg, u_not, u_lt, u_le, u_gt, u_ge, u_eqI, u_neI, decide_true, decide_false, u_int, u_intb, methF, List.map_cons, List.map_nil, List.replicate, List.cons_append, List.nil_append, this, Dd.ix0, Dd.eqW w hw]
        simp [pr, hi])
    (fun i hi _ acc => by rfl)
    (by simp; omega)
  refine ⟨(List.range b.ds.length).filter pr, fun i hi => ?_, ?_⟩
  · obtain ⟨h1, h2⟩ := List.mem_filter.1 hi
    have h1 := List.mem_range.1 h1
    refine ⟨h1, ?_⟩
    simpa [pr, h1] using h2
  · refine fn_list (g := [.lst (((List.range b.ds.length).filter pr).map fun i => .int (i : Nat))]) (i := 0) t__law_places rfl ?_ rfl (grs_map _ (fun _ => rfl) _)
    simp only [R__law_places, F__law_places, u_seq, u_asg, u_call, u_exp, u_if, u_ret, u_setS, u_par, u_nx, nxt_nx, nxt_rt, u_list, u_list0, u_var, u_con, u_bin, u_un1, u_and, u_or, u_chain, u_ite, u_blt, u_tup, u_lst, u_slc, u_opt, u_opt0, im_int, u_nm, u_tgs, u_tgs0, u_tupT, List.getElem?_cons_succ, List.getElem?_cons_zero, bind_ok, thenS_ok, thenI_ok, List.length_cons, List.length_nil, Nat.reduceAdd, Nat.reduceSub, Nat.reduceLT, Nat.reduceLeDiff, Nat.zero_le, if_true, om_some, List.set_cons_succ, List.set_cons_zero, bm_bl, Bool.not_true, Bool.not_false, Bool.false_eq_true, if_false, u_add, u_sub, u_neg, u_not, u_lt, u_le, u_gt, u_ge, u_eqI, u_neI, decide_true, decide_false, u_int, u_intb, methF, List.map_cons, List.map_nil, List.replicate, List.cons_append, List.nil_append, lc]
    rfl

/-! throws, and how all bear them -/
structure WsOk (K : Nat) (ws : List Int) (w : Int) : Prop where
  len : ws.length = K
  bd : ∀ v ∈ ws, 1 ≤ v ∧ v ≤ 99
  w : 1 ≤ w ∧ w ≤ 99
theorem WsOk.at {K : Nat} {ws : List Int} {w : Int} (o : WsOk K ws w) {i : Nat} (hi : i < K) : (ws ++ [w])[i]? = some (ws.getD i 0) ∧ 1 ≤ ws.getD i 0 ∧ ws.getD i 0 ≤ 99 := by
  have h1 : i < ws.length := by rw [o.len]; exact hi
  have e : ws.getD i 0 = ws[i] := by simp [h1]
  refine ⟨by rw [List.getElem?_append_left h1, e]; exact List.getElem?_eq_getElem h1, ?_⟩
  rw [e]; exact o.bd _ (List.getElem_mem h1)
theorem b64 {v : Int} (h : 1 ≤ v ∧ v ≤ 99) : v.natAbs < big64 := by unfold big64; omega
theorem Sta.ix0 (s : Sta) (h : Hv) : opIx s.d (.int 0) h = .ok (lsD s.ls) h := by simp [Sta.d, stD]
theorem Sta.ix1 (s : Sta) (h : Hv) : opIx s.d (.int 1) h = .ok (shD s.hs) h := by simp [Sta.d, stD]
section
variable {n : Nat} {b : Bk} (c : BkC n b) (hn : n ≤ 17) {ws : List Int} {w : Int} (o : WsOk b.K ws w)
include c hn o
end
/-- the throw at a place -/
structure ThrAt (b : Bk) (i a : Nat) (n : Int) (ws : List Int) (w : Int) : Prop where
  lt : i < b.ds.length
  d : b.ds[i] = .throw a n ws w
theorem ThrAt.ix {b : Bk} {i a : Nat} {m : Int} {ws : List Int} {w : Int} (t : ThrAt b i a m ws w) (h : Hv) : opIx (.tup (b.ds.map Dd.d)) (.int i) h = .ok (thD a m (ws ++ [w])) h := by
  rw [ix_ds t.lt, t.d]; rfl
section
variable {n : Nat} {b : Bk} (c : BkC n b) (hn : n ≤ 17) {i a : Nat} {m : Int} {ws : List Int} {w : Int} (ta : ThrAt b i a m ws w)
include c hn ta
end

theorem StatesAt.at {h : Hv} {b : Bk} {sp : Nat} {f : Nat → Nat} {j : Nat} (s : StatesAt h b sp f j) {i : Nat} (hi : i ≤ j) : opIx (.ref sp) (.int i) h = .ok (.tup [.ref (f i), shD (b.st i).hs]) h := by
  rw [ix_ref _ _ _ _ s.top, at_nat, List.getElem?_map, List.getElem?_range (by omega)]; rfl
section
variable {n : Nat} {b : Bk} (c : BkC n b) (hn : n ≤ 17) {i a : Nat} {m : Int} {ws : List Int} {w : Int} (ta : ThrAt b i a m ws w)
include c hn ta
end


theorem bk_gr (b : Bk) : b.d.gr = true := by simp [Bk.d, bookD, D.gr, D.grs, lsD_gr, ds_gr, Bk.tr, trD, shD_gr]

theorem Sh.bn {N : Nat} {q : Rat} (h : Sh N q) : Bn N 1 q := ⟨h.1, by have := h.2.1; grind, by have := h.2.2; simpa using this⟩
theorem fitc {M c : Nat} {q : Rat} (h : Bn M c q) (h0 : 0 < M) (h1 : M < 2 ^ 4000) (hc : c ≤ 2 ^ 4000) : Fit q :=
  h.fit h0 (Nat.lt_of_lt_of_le h1 (Nat.pow_le_pow_right (by decide) (by decide))) (Nat.lt_of_le_of_lt hc (Nat.pow_lt_pow_right (by decide) (by decide)))

/-! what each would have had alone -/
def alPart (ls : List Ld) (mine : List Rat) (a : Nat) : Rat := mine.getD a 0 * mkRat 1 (at_ ls a).n.toNat
def alGive (ls : List Ld) (mine : List Rat) (a : Nat) (g : Int) : List Rat := mine.set a (mine.getD a 0 - (g : Rat) * alPart ls mine a)
def alStep (p : Nat) (ls : List Ld) (mine : List Rat) : Dd → List Rat
  | .bring q k n => mine ++ [if q = p then (n : Rat) else 0]
  | .pool a b => ((mine ++ [mine.getD a 0 + mine.getD b 0]).set a 0).set b 0
  | .swap a g k n => alGive ls mine a g ++ [(n : Rat) * alPart ls mine a]
  | .trade no a g k n => alGive ls mine a g ++ [(n : Rat) * alPart ls mine a]
  | .spoil a m => alGive ls mine a m
  | .throw a m ws w => alGive ls mine a m
  | .sell p q part => mine
def alone (b : Bk) (p : Nat) : Nat → List Rat
  | 0 => b.ls.map fun l => (l.n : Rat) * l.sh.getD p 0
  | m + 1 => match b.ds[m]? with
    | some d => alStep p (b.st m).ls (alone b p m) d
    | none => alone b p m
structure Al (M : Nat) (s : Sta) (mine : List Rat) : Prop where
  len : mine.length = s.ls.length
  bd : ∀ i, i < s.ls.length → (mine.getD i 0).den ∣ M ∧ 0 ≤ mine.getD i 0 ∧ mine.getD i 0 ≤ (((at_ s.ls i).n : Int) : Rat)
  M0 : 0 < M
theorem getD_set_eq {xs : List Rat} {a : Nat} {x : Rat} (h : a < xs.length) : (xs.set a x).getD a 0 = x := by simp [h]
theorem getD_set_ne {xs : List Rat} {a i : Nat} {x : Rat} (h : a ≠ i) : (xs.set a x).getD i 0 = xs.getD i 0 := by
  simp [List.getElem?_set_ne h]
theorem getD_app_lt {xs ys : List Rat} {i : Nat} (h : i < xs.length) : (xs ++ ys).getD i 0 = xs.getD i 0 := by simp [List.getElem?_append_left h]
theorem getD_app_at {xs : List Rat} {x : Rat} : (xs ++ [x]).getD xs.length 0 = x := by simp
theorem at_app_lt {xs ys : List Ld} {i : Nat} (h : i < xs.length) : at_ (xs ++ ys) i = at_ xs i := by simp [at_, List.getElem?_append_left h]
theorem at_app_at {xs : List Ld} {x : Ld} : at_ (xs ++ [x]) xs.length = x := by simp [at_]
theorem at_less_eq {ls : List Ld} {a : Nat} {l : Ld} {m : Int} (h : a < ls.length) : at_ (lessL ls a l m) a = ⟨l.k, l.n - m, l.sh⟩ := by simp [at_, lessL, h]
theorem at_less_ne {ls : List Ld} {a i : Nat} {l : Ld} {m : Int} (h : a ≠ i) : at_ (lessL ls a l m) i = at_ ls i := by simp [at_, lessL, List.getElem?_set_ne h]
theorem len_less {ls : List Ld} {a : Nat} {l : Ld} {m : Int} : (lessL ls a l m).length = ls.length := by simp [lessL]
theorem part_facts2 {M : Nat} {s : Sta} {mine : List Rat} (al : Al M s mine) {a : Nat} (ha : a < s.ls.length) (hn : 1 ≤ (at_ s.ls a).n) : ∃ N : Nat, ((at_ s.ls a).n : Int) = N ∧ 0 < N ∧ alPart s.ls mine a = mine.getD a 0 * mkRat 1 N ∧ (alPart s.ls mine a).den ∣ M * N ∧ 0 ≤ alPart s.ls mine a ∧ alPart s.ls mine a ≤ 1 ∧ alPart s.ls mine a * (N : Rat) = mine.getD a 0 := by
  obtain ⟨N, eN⟩ := Int.eq_ofNat_of_zero_le (a := (at_ s.ls a).n) (by omega)
  have N0 : 0 < N := by omega
  have eT : (at_ s.ls a).n.toNat = N := by omega
  have e : alPart s.ls mine a = mine.getD a 0 * mkRat 1 N := by rw [alPart, eT]
  obtain ⟨d1, d2, d3⟩ := al.bd a ha
  rw [eN, rcast] at d3
  have i1 := mkRat_inv N N0
  have i0 : 0 ≤ mkRat 1 N := by
    rw [← Rat.num_nonneg, (one_num N N0).1]; decide
  refine ⟨N, eN, N0, e, ?_, ?_, ?_, ?_⟩
  · rw [e]
    refine Nat.dvd_trans (den_mul_dvd _ _) (Nat.mul_dvd_mul d1 ?_)
    rw [(one_num N N0).2]; exact Nat.dvd_refl _
  · rw [e]; exact Rat.mul_nonneg d2 i0
  · rw [e]
    have := Rat.mul_le_mul_of_nonneg_right d3 i0
    grind
  · rw [e]; grind
theorem al_give {M P K t Mg : Nat} {s : Sta} {mine : List Rat} (al : Al M s mine) (g : Good P K t Mg s) {a : Nat} {m : Int} (ha : a < s.ls.length) (m1 : 1 ≤ m) (m2 : m ≤ (at_ s.ls a).n) :
    ∃ N : Nat, 0 < N ∧ ((at_ s.ls a).n : Int) = N ∧ Al (M * N) ⟨lessL s.ls a (at_ s.ls a) m, s.hs, s.nums⟩ (alGive s.ls mine a m) ∧ (alPart s.ls mine a).den ∣ M * N ∧ 0 ≤ alPart s.ls mine a ∧ alPart s.ls mine a ≤ 1 := by
  obtain ⟨N, eN, N0, e, q1, q2, q3, q4⟩ := part_facts2 al ha (by omega)
  refine ⟨N, N0, eN, ⟨by simp [alGive, lessL, al.len], fun i hi => ?_, Nat.mul_pos al.M0 N0⟩, q1, q2, q3⟩
  rw [len_less] at hi
  by_cases ei : a = i
  · subst ei
    simp only [alGive]
    rw [getD_set_eq (by rw [al.len]; exact ha), at_less_eq ha]
    generalize alPart s.ls mine a = pt at *
    obtain ⟨d1, d2, d3⟩ := al.bd a ha
    have e2 : mine.getD a 0 - (m : Rat) * pt = (((at_ s.ls a).n - m : Int) : Rat) * pt := by
      rw [Rat.intCast_sub, eN, rcast, ← q4]; grind
    rw [e2]
    have nn : (0 : Rat) ≤ (((at_ s.ls a).n - m : Int) : Rat) := by
      have : (0 : Int) ≤ (at_ s.ls a).n - m := by omega
      exact_mod_cast this
    refine ⟨?_, Rat.mul_nonneg nn q2, ?_⟩
    · have := den_mul_dvd (((at_ s.ls a).n - m : Int) : Rat) pt
      rw [Rat.den_intCast, Nat.one_mul] at this
      exact Nat.dvd_trans this q1
    · have := Rat.mul_le_mul_of_nonneg_left q3 nn
      grind
  · simp only [alGive]
    rw [getD_set_ne ei, at_less_ne ei]
    obtain ⟨d1, d2, d3⟩ := al.bd i hi
    exact ⟨Nat.dvd_trans d1 (Nat.dvd_mul_right ..), d2, d3⟩
theorem Al.more {M N : Nat} {s : Sta} {mine : List Rat} (al : Al M s mine) {l : Ld} {x : Rat} (h0 : 0 < N) (hd : M ∣ N) (x1 : x.den ∣ N) (x2 : 0 ≤ x) (x3 : x ≤ ((l.n : Int) : Rat)) (hs : List Rat) (nums : List Int) : Al N ⟨s.ls ++ [l], hs, nums⟩ (mine ++ [x]) := by
  refine ⟨by simp [al.len], fun i hi => ?_, h0⟩
  simp only [List.length_append, List.length_singleton] at hi
  by_cases e : i < s.ls.length
  · obtain ⟨d1, d2, d3⟩ := al.bd i e
    rw [getD_app_lt (by rw [al.len]; exact e), at_app_lt e]
    exact ⟨Nat.dvd_trans d1 hd, d2, d3⟩
  · have : i = s.ls.length := by omega
    subst this
    rw [at_app_at, ← al.len, getD_app_at]
    exact ⟨x1, x2, x3⟩
theorem al_step {M P K t Mg : Nat} {B : Int} {s : Sta} {mine : List Rat} (al : Al M s mine) (g : Good P K t Mg s) (ht : t ≤ 16) {d : Dd} (c : Can P K s d) (p : Nat) : ∃ M', M' ≤ M * 2 ^ 140 ∧ Al M' (after1 P B s d) (alStep p s.ls mine d) := by
  have nb : ∀ a, a < s.ls.length → (at_ s.ls a).n ≤ 2 ^ 140 := fun a ha => by
    have := (tot_nn g.nn).2 _ (at_mem ha)
    have gt := g.tot
    have tb : ((4 : Int) + t) * 2 ^ 131 ≤ 20 * 2 ^ 131 := Int.mul_le_mul_of_nonneg_right (by omega) (by decide)
    omega
  have big : ∀ {N : Nat} {a : Nat}, a < s.ls.length → ((at_ s.ls a).n : Int) = N → M * N ≤ M * 2 ^ 140 := fun {N a} ha e => Nat.mul_le_mul_left _ (by have := nb a ha; omega)
  have M1 : M ≤ M * 2 ^ 140 := Nat.le_mul_of_pos_right _ (Nat.two_pow_pos _)
  have icast : ∀ n : Int, 0 ≤ n → (0 : Rat) ≤ (n : Rat) := fun n h => by exact_mod_cast h
  have sw : ∀ (a : Nat) (gv : Int) (kd : Nat) (n : Int) (nums : List Int), a < s.ls.length → 1 ≤ gv → gv ≤ (at_ s.ls a).n → 1 ≤ n → ∃ M', M' ≤ M * 2 ^ 140 ∧ Al M' ⟨lessL s.ls a (at_ s.ls a) gv ++ [⟨kd, n, (at_ s.ls a).sh⟩], s.hs, nums⟩ (alGive s.ls mine a gv ++ [(n : Rat) * alPart s.ls mine a]) := by
    intro a gv kd n nums ha g1 g2 n1
    obtain ⟨N, N0, eN, al2, q1, q2, q3⟩ := al_give al g ha g1 g2
    refine ⟨M * N, big ha eN, al2.more al2.M0 (Nat.dvd_refl _) ?_ (Rat.mul_nonneg (icast n (by omega)) q2) ?_ _ _⟩
    · have := den_mul_dvd (n : Rat) (alPart s.ls mine a)
      rw [Rat.den_intCast, Nat.one_mul] at this
      exact Nat.dvd_trans this q1
    · have := Rat.mul_le_mul_of_nonneg_left q3 (icast n (by omega))
      show (n : Rat) * alPart s.ls mine a ≤ (n : Rat)
      grind
  cases d with
  | bring q kd n =>
    refine ⟨M, M1, al.more al.M0 (Nat.dvd_refl _) ?_ ?_ ?_ _ _⟩
    · split
      · rw [Rat.den_intCast]; exact Nat.one_dvd _
      · exact Nat.one_dvd _
    · split
      · exact icast n (by have := c.2.2.1; omega)
      · decide
    · show (if q = p then (n : Rat) else 0) ≤ (n : Rat)
      split
      · grind
      · exact icast n (by have := c.2.2.1; omega)
  | pool a b =>
    obtain ⟨hab, ha, hb, n1, n2, hk⟩ := c
    obtain ⟨a1, a2, a3⟩ := al.bd a ha
    obtain ⟨b1, b2, b3⟩ := al.bd b hb
    refine ⟨M, M1, ?_⟩
    have len := al.len
    have key : ∀ i, i < s.ls.length → (((mine ++ [mine.getD a 0 + mine.getD b 0]).set a 0).set b 0).getD i 0 = if i = b then 0 else if i = a then 0 else mine.getD i 0 := fun i hi => by
      by_cases e1 : i = b
      · subst e1
        rw [getD_set_eq (by simp; omega), if_pos rfl]
      · rw [getD_set_ne (Ne.symm e1), if_neg e1]
        by_cases e2 : i = a
        · subst e2
          rw [getD_set_eq (by simp; omega), if_pos rfl]
        · rw [getD_set_ne (Ne.symm e2), if_neg e2, getD_app_lt (by omega)]
    refine ⟨by simp [alStep, after1, lessL, len], fun i hi => ?_, al.M0⟩
    have hi : i < ((lessL (lessL s.ls a (at_ s.ls a) (at_ s.ls a).n) b (at_ s.ls b) (at_ s.ls b).n) ++ [(⟨(at_ s.ls a).k, (at_ s.ls a).n + (at_ s.ls b).n, plS (at_ s.ls a).n (at_ s.ls b).n (at_ s.ls a).sh (at_ s.ls b).sh⟩ : Ld)]).length := hi
    show _ ∧ _ ∧ _ ≤ (((at_ ((lessL (lessL s.ls a (at_ s.ls a) (at_ s.ls a).n) b (at_ s.ls b) (at_ s.ls b).n) ++ [(⟨(at_ s.ls a).k, (at_ s.ls a).n + (at_ s.ls b).n, plS (at_ s.ls a).n (at_ s.ls b).n (at_ s.ls a).sh (at_ s.ls b).sh⟩ : Ld)]) i).n : Int) : Rat)
    simp only [List.length_append, len_less, List.length_singleton] at hi
    by_cases e : i < s.ls.length
    · rw [at_app_lt (by rw [len_less, len_less]; exact e)]
      simp only [alStep]
      rw [key i e]
      by_cases e1 : i = b
      · subst e1
        rw [if_pos rfl, at_less_eq (by rw [len_less]; exact hb)]
        refine ⟨Nat.one_dvd _, by decide, ?_⟩
        show (0 : Rat) ≤ (((at_ s.ls i).n - (at_ s.ls i).n : Int) : Rat)
        rw [Int.sub_self]; decide
      · rw [if_neg e1, at_less_ne (Ne.symm e1)]
        by_cases e2 : i = a
        · subst e2
          rw [if_pos rfl, at_less_eq ha]
          refine ⟨Nat.one_dvd _, by decide, ?_⟩
          show (0 : Rat) ≤ (((at_ s.ls i).n - (at_ s.ls i).n : Int) : Rat)
          rw [Int.sub_self]; decide
        · rw [if_neg e2, at_less_ne (Ne.symm e2)]
          exact al.bd i e
    · have ei : i = s.ls.length := by omega
      subst ei
      have eq : (lessL (lessL s.ls a (at_ s.ls a) (at_ s.ls a).n) b (at_ s.ls b) (at_ s.ls b).n).length = s.ls.length := by rw [len_less, len_less]
      simp only [alStep]
      rw [getD_set_ne (by omega), getD_set_ne (by omega)]
      have e1 := at_app_at (xs := lessL (lessL s.ls a (at_ s.ls a) (at_ s.ls a).n) b (at_ s.ls b) (at_ s.ls b).n) (x := ⟨(at_ s.ls a).k, (at_ s.ls a).n + (at_ s.ls b).n, plS (at_ s.ls a).n (at_ s.ls b).n (at_ s.ls a).sh (at_ s.ls b).sh⟩)
      rw [eq] at e1
      have e2 := getD_app_at (xs := mine) (x := mine.getD a 0 + mine.getD b 0)
      rw [len] at e2
      rw [e1, e2]
      refine ⟨den_add_dvd al.M0 a1 b1, by grind, ?_⟩
      show _ ≤ (((at_ s.ls a).n + (at_ s.ls b).n : Int) : Rat)
      rw [Rat.intCast_add]
      grind
  | swap a gv kd n => exact sw a gv kd n _ c.1 c.2.1 c.2.2.1 c.2.2.2.2.2.1
  | trade no a gv kd n => exact sw a gv kd n _ c.2.1 c.2.2.1 c.2.2.2.1 c.2.2.2.2.2.2.1
  | spoil a m =>
    obtain ⟨N, N0, eN, al2, _⟩ := al_give al g c.1 c.2.1 c.2.2
    exact ⟨M * N, big c.1 eN, al2⟩
  | throw a m ws w =>
    obtain ⟨N, N0, eN, al2, _⟩ := al_give al g c.1 c.2.1 c.2.2.1
    refine ⟨M * N, big c.1 eN, ?_⟩
    have ak : Alike (⟨lessL s.ls a (at_ s.ls a) m, s.hs, s.nums⟩ : Sta) (after1 P B s (.throw a m ws w)) := ⟨by simp [after1, thrL, List.map_map, Function.comp_def], rfl⟩
    exact ⟨by rw [← ak.len]; exact al2.len, fun i hi => by
      rw [← ak.len] at hi
      rw [← (ak.at i).2]; exact al2.bd i hi, al2.M0⟩
  | sell p' q part =>
    refine ⟨M, M1, ?_⟩
    have ak := (Alike.sell (P := P) (B := B) s p' q part).symm
    exact ⟨by rw [← ak.len]; exact al.len, fun i hi => by
      rw [← ak.len] at hi
      rw [← (ak.at i).2]; exact al.bd i hi, al.M0⟩
theorem BkC.alone {n : Nat} {b : Bk} (c : BkC n b) (hn : n ≤ 17) {p : Nat} (hp : p < b.P) : ∀ m, m ≤ b.ds.length → ∃ M, M < 2 ^ (60 + 140 * m) ∧ Al M (b.st m) (alone b p m)
  | 0, _ => by
    obtain ⟨M, g⟩ := c.goodAt hn 0
    rw [Nat.zero_min] at g
    refine ⟨M, g.M1, ⟨by simp [VM.alone, Bk.st, runS, Bk.s0], fun i hi => ?_, g.M0⟩⟩
    have e0 : (b.st 0).ls = b.ls := rfl
    rw [e0] at hi ⊢
    have hl : at_ b.ls i ∈ b.ls := at_mem hi
    have gs := g.sh _ (e0 ▸ hl)
    have sq := gs.2 _ (getD_mem (p := p) (by rw [gs.1]; exact hp))
    have nn := g.nn _ (e0 ▸ hl)
    have em : (VM.alone b p 0).getD i 0 = (((at_ b.ls i).n : Int) : Rat) * (at_ b.ls i).sh.getD p 0 := by
      simp [VM.alone, hi, at_]
    rw [em]
    have nn' : (0 : Rat) ≤ (((at_ b.ls i).n : Int) : Rat) := by exact_mod_cast nn
    refine ⟨?_, Rat.mul_nonneg nn' sq.2.1, ?_⟩
    · have := den_mul_dvd (((at_ b.ls i).n : Int) : Rat) ((at_ b.ls i).sh.getD p 0)
      rw [Rat.den_intCast, Nat.one_mul] at this
      exact Nat.dvd_trans this sq.1
    · have h1 : (at_ b.ls i).sh.getD p 0 ≤ 1 := by
        have h2 := sq.2.2
        have e : ((2 ^ 0 : Nat) : Rat) = 1 := by decide +kernel
        rw [e] at h2
        exact h2
      have := Rat.mul_le_mul_of_nonneg_left h1 nn'
      grind
  | m + 1, hm => by
    obtain ⟨M, hM, al⟩ := BkC.alone c hn hp m (by omega)
    obtain ⟨Mg, g⟩ := c.goodAt hn m
    have cl := c.len
    obtain ⟨cd, es⟩ := c.canAt (m := m) (by omega)
    obtain ⟨M', h1, al2⟩ := al_step (B := b.B) al g (by omega) cd p
    refine ⟨M', ?_, ?_⟩
    · refine Nat.lt_of_le_of_lt h1 ?_
      have := Nat.mul_lt_mul_of_pos_right hM (Nat.two_pow_pos 140)
      rw [← Nat.pow_add] at this
      exact Nat.lt_of_lt_of_le this (Nat.pow_le_pow_right (by decide) (by omega))
    · rw [es]
      have : VM.alone b p (m + 1) = alStep p (b.st m).ls (VM.alone b p m) b.ds[m] := by
        rw [VM.alone, List.getElem?_eq_getElem (by omega)]
      rw [this]
      exact al2

theorem iw_bring_bring (p k : Nat) (n : Int) : Dd.isW "bring" (.bring p k n) = true := by
  simp only [Dd.isW, Dd.w]; decide +kernel
theorem iw_bring_pool (p k : Nat) (n : Int) : Dd.isW "pool" (.bring p k n) = false := by
  simp only [Dd.isW, Dd.w]; decide +kernel
theorem iw_bring_swap (p k : Nat) (n : Int) : Dd.isW "swap" (.bring p k n) = false := by
  simp only [Dd.isW, Dd.w]; decide +kernel
theorem iw_bring_trade (p k : Nat) (n : Int) : Dd.isW "trade" (.bring p k n) = false := by
  simp only [Dd.isW, Dd.w]; decide +kernel
theorem iw_bring_spoil (p k : Nat) (n : Int) : Dd.isW "spoil" (.bring p k n) = false := by
  simp only [Dd.isW, Dd.w]; decide +kernel
theorem iw_bring_throw (p k : Nat) (n : Int) : Dd.isW "throw" (.bring p k n) = false := by
  simp only [Dd.isW, Dd.w]; decide +kernel
theorem iw_bring_sell (p k : Nat) (n : Int) : Dd.isW "sell" (.bring p k n) = false := by
  simp only [Dd.isW, Dd.w]; decide +kernel
theorem iw_pool_bring (a b : Nat) : Dd.isW "bring" (.pool a b) = false := by
  simp only [Dd.isW, Dd.w]; decide +kernel
theorem iw_pool_pool (a b : Nat) : Dd.isW "pool" (.pool a b) = true := by
  simp only [Dd.isW, Dd.w]; decide +kernel
theorem iw_pool_swap (a b : Nat) : Dd.isW "swap" (.pool a b) = false := by
  simp only [Dd.isW, Dd.w]; decide +kernel
theorem iw_pool_trade (a b : Nat) : Dd.isW "trade" (.pool a b) = false := by
  simp only [Dd.isW, Dd.w]; decide +kernel
theorem iw_pool_spoil (a b : Nat) : Dd.isW "spoil" (.pool a b) = false := by
  simp only [Dd.isW, Dd.w]; decide +kernel
theorem iw_pool_throw (a b : Nat) : Dd.isW "throw" (.pool a b) = false := by
  simp only [Dd.isW, Dd.w]; decide +kernel
theorem iw_pool_sell (a b : Nat) : Dd.isW "sell" (.pool a b) = false := by
  simp only [Dd.isW, Dd.w]; decide +kernel
theorem iw_swap_bring (a : Nat) (g : Int) (k : Nat) (n : Int) : Dd.isW "bring" (.swap a g k n) = false := by
  simp only [Dd.isW, Dd.w]; decide +kernel
theorem iw_swap_pool (a : Nat) (g : Int) (k : Nat) (n : Int) : Dd.isW "pool" (.swap a g k n) = false := by
  simp only [Dd.isW, Dd.w]; decide +kernel
theorem iw_swap_swap (a : Nat) (g : Int) (k : Nat) (n : Int) : Dd.isW "swap" (.swap a g k n) = true := by
  simp only [Dd.isW, Dd.w]; decide +kernel
theorem iw_swap_trade (a : Nat) (g : Int) (k : Nat) (n : Int) : Dd.isW "trade" (.swap a g k n) = false := by
  simp only [Dd.isW, Dd.w]; decide +kernel
theorem iw_swap_spoil (a : Nat) (g : Int) (k : Nat) (n : Int) : Dd.isW "spoil" (.swap a g k n) = false := by
  simp only [Dd.isW, Dd.w]; decide +kernel
theorem iw_swap_throw (a : Nat) (g : Int) (k : Nat) (n : Int) : Dd.isW "throw" (.swap a g k n) = false := by
  simp only [Dd.isW, Dd.w]; decide +kernel
theorem iw_swap_sell (a : Nat) (g : Int) (k : Nat) (n : Int) : Dd.isW "sell" (.swap a g k n) = false := by
  simp only [Dd.isW, Dd.w]; decide +kernel
theorem iw_trade_bring (no : Int) (a : Nat) (g : Int) (k : Nat) (n : Int) : Dd.isW "bring" (.trade no a g k n) = false := by
  simp only [Dd.isW, Dd.w]; decide +kernel
theorem iw_trade_pool (no : Int) (a : Nat) (g : Int) (k : Nat) (n : Int) : Dd.isW "pool" (.trade no a g k n) = false := by
  simp only [Dd.isW, Dd.w]; decide +kernel
theorem iw_trade_swap (no : Int) (a : Nat) (g : Int) (k : Nat) (n : Int) : Dd.isW "swap" (.trade no a g k n) = false := by
  simp only [Dd.isW, Dd.w]; decide +kernel
theorem iw_trade_trade (no : Int) (a : Nat) (g : Int) (k : Nat) (n : Int) : Dd.isW "trade" (.trade no a g k n) = true := by
  simp only [Dd.isW, Dd.w]; decide +kernel
theorem iw_trade_spoil (no : Int) (a : Nat) (g : Int) (k : Nat) (n : Int) : Dd.isW "spoil" (.trade no a g k n) = false := by
  simp only [Dd.isW, Dd.w]; decide +kernel
theorem iw_trade_throw (no : Int) (a : Nat) (g : Int) (k : Nat) (n : Int) : Dd.isW "throw" (.trade no a g k n) = false := by
  simp only [Dd.isW, Dd.w]; decide +kernel
theorem iw_trade_sell (no : Int) (a : Nat) (g : Int) (k : Nat) (n : Int) : Dd.isW "sell" (.trade no a g k n) = false := by
  simp only [Dd.isW, Dd.w]; decide +kernel
theorem iw_spoil_bring (a : Nat) (n : Int) : Dd.isW "bring" (.spoil a n) = false := by
  simp only [Dd.isW, Dd.w]; decide +kernel
theorem iw_spoil_pool (a : Nat) (n : Int) : Dd.isW "pool" (.spoil a n) = false := by
  simp only [Dd.isW, Dd.w]; decide +kernel
theorem iw_spoil_swap (a : Nat) (n : Int) : Dd.isW "swap" (.spoil a n) = false := by
  simp only [Dd.isW, Dd.w]; decide +kernel
theorem iw_spoil_trade (a : Nat) (n : Int) : Dd.isW "trade" (.spoil a n) = false := by
  simp only [Dd.isW, Dd.w]; decide +kernel
theorem iw_spoil_spoil (a : Nat) (n : Int) : Dd.isW "spoil" (.spoil a n) = true := by
  simp only [Dd.isW, Dd.w]; decide +kernel
theorem iw_spoil_throw (a : Nat) (n : Int) : Dd.isW "throw" (.spoil a n) = false := by
  simp only [Dd.isW, Dd.w]; decide +kernel
theorem iw_spoil_sell (a : Nat) (n : Int) : Dd.isW "sell" (.spoil a n) = false := by
  simp only [Dd.isW, Dd.w]; decide +kernel
theorem iw_throw_bring (a : Nat) (n : Int) (ws : List Int) (w : Int) : Dd.isW "bring" (.throw a n ws w) = false := by
  simp only [Dd.isW, Dd.w]; decide +kernel
theorem iw_throw_pool (a : Nat) (n : Int) (ws : List Int) (w : Int) : Dd.isW "pool" (.throw a n ws w) = false := by
  simp only [Dd.isW, Dd.w]; decide +kernel
theorem iw_throw_swap (a : Nat) (n : Int) (ws : List Int) (w : Int) : Dd.isW "swap" (.throw a n ws w) = false := by
  simp only [Dd.isW, Dd.w]; decide +kernel
theorem iw_throw_trade (a : Nat) (n : Int) (ws : List Int) (w : Int) : Dd.isW "trade" (.throw a n ws w) = false := by
  simp only [Dd.isW, Dd.w]; decide +kernel
theorem iw_throw_spoil (a : Nat) (n : Int) (ws : List Int) (w : Int) : Dd.isW "spoil" (.throw a n ws w) = false := by
  simp only [Dd.isW, Dd.w]; decide +kernel
theorem iw_throw_throw (a : Nat) (n : Int) (ws : List Int) (w : Int) : Dd.isW "throw" (.throw a n ws w) = true := by
  simp only [Dd.isW, Dd.w]; decide +kernel
theorem iw_throw_sell (a : Nat) (n : Int) (ws : List Int) (w : Int) : Dd.isW "sell" (.throw a n ws w) = false := by
  simp only [Dd.isW, Dd.w]; decide +kernel
theorem iw_sell_bring (p q : Nat) (part : Rat) : Dd.isW "bring" (.sell p q part) = false := by
  simp only [Dd.isW, Dd.w]; decide +kernel
theorem iw_sell_pool (p q : Nat) (part : Rat) : Dd.isW "pool" (.sell p q part) = false := by
  simp only [Dd.isW, Dd.w]; decide +kernel
theorem iw_sell_swap (p q : Nat) (part : Rat) : Dd.isW "swap" (.sell p q part) = false := by
  simp only [Dd.isW, Dd.w]; decide +kernel
theorem iw_sell_trade (p q : Nat) (part : Rat) : Dd.isW "trade" (.sell p q part) = false := by
  simp only [Dd.isW, Dd.w]; decide +kernel
theorem iw_sell_spoil (p q : Nat) (part : Rat) : Dd.isW "spoil" (.sell p q part) = false := by
  simp only [Dd.isW, Dd.w]; decide +kernel
theorem iw_sell_throw (p q : Nat) (part : Rat) : Dd.isW "throw" (.sell p q part) = false := by
  simp only [Dd.isW, Dd.w]; decide +kernel
theorem iw_sell_sell (p q : Nat) (part : Rat) : Dd.isW "sell" (.sell p q part) = true := by
  simp only [Dd.isW, Dd.w]; decide +kernel
theorem in_st (d : Dd) (h : Hv) : opIn false (.str d.w) (.tup [.str "spoil", .str "throw"]) h = .ok (.bl (match d with | .spoil .. => true | .throw .. => true | _ => false)) h := by cases d <;> rfl
theorem in_wt (d : Dd) (h : Hv) : opIn false (.str d.w) (.tup [.str "swap", .str "trade"]) h = .ok (.bl (match d with | .swap .. => true | .trade .. => true | _ => false)) h := by cases d <;> rfl
theorem ix_bring1 (p k : Nat) (n : Int) (h : Hv) : opIx (Dd.bring p k n).d (.int 1) h = .ok (.int p) h := by simp [Dd.d, brD, poD, swD, traD, spD, thD, slD]
theorem ix_bring2 (p k : Nat) (n : Int) (h : Hv) : opIx (Dd.bring p k n).d (.int 2) h = .ok (.int k) h := by simp [Dd.d, brD, poD, swD, traD, spD, thD, slD]
theorem ix_bring3 (p k : Nat) (n : Int) (h : Hv) : opIx (Dd.bring p k n).d (.int 3) h = .ok (.int n) h := by simp [Dd.d, brD, poD, swD, traD, spD, thD, slD]
theorem ix_pool1 (a b : Nat) (h : Hv) : opIx (Dd.pool a b).d (.int 1) h = .ok (.int a) h := by simp [Dd.d, brD, poD, swD, traD, spD, thD, slD]
theorem ix_pool2 (a b : Nat) (h : Hv) : opIx (Dd.pool a b).d (.int 2) h = .ok (.int b) h := by simp [Dd.d, brD, poD, swD, traD, spD, thD, slD]
theorem ix_swap1 (a : Nat) (g : Int) (k : Nat) (n : Int) (h : Hv) : opIx (Dd.swap a g k n).d (.int 1) h = .ok (.int a) h := by simp [Dd.d, brD, poD, swD, traD, spD, thD, slD]
theorem ix_swap2 (a : Nat) (g : Int) (k : Nat) (n : Int) (h : Hv) : opIx (Dd.swap a g k n).d (.int 2) h = .ok (.int g) h := by simp [Dd.d, brD, poD, swD, traD, spD, thD, slD]
theorem ix_swap3 (a : Nat) (g : Int) (k : Nat) (n : Int) (h : Hv) : opIx (Dd.swap a g k n).d (.int 3) h = .ok (.int k) h := by simp [Dd.d, brD, poD, swD, traD, spD, thD, slD]
theorem ix_swap4 (a : Nat) (g : Int) (k : Nat) (n : Int) (h : Hv) : opIx (Dd.swap a g k n).d (.int 4) h = .ok (.int n) h := by simp [Dd.d, brD, poD, swD, traD, spD, thD, slD]
theorem ix_trade1 (no : Int) (a : Nat) (g : Int) (k : Nat) (n : Int) (h : Hv) : opIx (Dd.trade no a g k n).d (.int 1) h = .ok (.int no) h := by simp [Dd.d, brD, poD, swD, traD, spD, thD, slD]
theorem ix_trade2 (no : Int) (a : Nat) (g : Int) (k : Nat) (n : Int) (h : Hv) : opIx (Dd.trade no a g k n).d (.int 2) h = .ok (.int a) h := by simp [Dd.d, brD, poD, swD, traD, spD, thD, slD]
theorem ix_trade3 (no : Int) (a : Nat) (g : Int) (k : Nat) (n : Int) (h : Hv) : opIx (Dd.trade no a g k n).d (.int 3) h = .ok (.int g) h := by simp [Dd.d, brD, poD, swD, traD, spD, thD, slD]
theorem ix_trade4 (no : Int) (a : Nat) (g : Int) (k : Nat) (n : Int) (h : Hv) : opIx (Dd.trade no a g k n).d (.int 4) h = .ok (.int k) h := by simp [Dd.d, brD, poD, swD, traD, spD, thD, slD]
theorem ix_trade5 (no : Int) (a : Nat) (g : Int) (k : Nat) (n : Int) (h : Hv) : opIx (Dd.trade no a g k n).d (.int 5) h = .ok (.int n) h := by simp [Dd.d, brD, poD, swD, traD, spD, thD, slD]
theorem ix_spoil1 (a : Nat) (n : Int) (h : Hv) : opIx (Dd.spoil a n).d (.int 1) h = .ok (.int a) h := by simp [Dd.d, brD, poD, swD, traD, spD, thD, slD]
theorem ix_spoil2 (a : Nat) (n : Int) (h : Hv) : opIx (Dd.spoil a n).d (.int 2) h = .ok (.int n) h := by simp [Dd.d, brD, poD, swD, traD, spD, thD, slD]
theorem ix_throw1 (a : Nat) (n : Int) (ws : List Int) (w : Int) (h : Hv) : opIx (Dd.throw a n ws w).d (.int 1) h = .ok (.int a) h := by simp [Dd.d, brD, poD, swD, traD, spD, thD, slD]
theorem ix_throw2 (a : Nat) (n : Int) (ws : List Int) (w : Int) (h : Hv) : opIx (Dd.throw a n ws w).d (.int 2) h = .ok (.int n) h := by simp [Dd.d, brD, poD, swD, traD, spD, thD, slD]
theorem ix_sell1 (p q : Nat) (part : Rat) (h : Hv) : opIx (Dd.sell p q part).d (.int 1) h = .ok (.int p) h := by simp [Dd.d, brD, poD, swD, traD, spD, thD, slD]
theorem ix_sell2 (p q : Nat) (part : Rat) (h : Hv) : opIx (Dd.sell p q part).d (.int 2) h = .ok (.int q) h := by simp [Dd.d, brD, poD, swD, traD, spD, thD, slD]
theorem gc_put {h g : Hv} {r : Nat} {ds : List D} {d : D} (hr : r < h.length) (hd : d.gr = true) (hds : D.grs ds = true) : gc h d (h.set r (Ob.lst ds) ++ g) = .ok d (h.set r (Ob.lst ds)) := by
  refine gc_gr (by simp) (fun i hi => ?_) hd
  by_cases e : r = i
  · subst e
    right
    exact ⟨Ob.lst ds, List.getElem?_set_self hr, hds⟩
  · left
    exact List.getElem?_set_ne e
theorem fn_put {f : Str} {rc : FnRec} {k : Nat} {args : List D} {h g : Hv} {r : Nat} {ds : List D} {d : D} (t : T f = some rc) (hn : args.length = rc.np) (hb : rc.body (callK T k) (args.map some ++ List.replicate (rc.nl - rc.np) none) h = .rt d (h.set r (Ob.lst ds) ++ g)) (hr : r < h.length) (hd : d.gr = true) (hds : D.grs ds = true) : callK T (k + 1) f args h = .ok d (h.set r (Ob.lst ds)) := by
  rw [callK_eq t]
  exact (run_rt hn hb).trans (gc_put hr hd hds)
theorem fn_putn {f : Str} {rc : FnRec} {k : Nat} {args : List D} {h g : Hv} {r : Nat} {ds : List D} {e : Env} (t : T f = some rc) (hn : args.length = rc.np) (hb : rc.body (callK T k) (args.map some ++ List.replicate (rc.nl - rc.np) none) h = .nx e (h.set r (Ob.lst ds) ++ g)) (hr : r < h.length) (hds : D.grs ds = true) : callK T (k + 1) f args h = .ok .non (h.set r (Ob.lst ds)) := by
  rw [callK_eq t]
  exact (run_nx hn hb).trans (gc_put hr rfl hds)
theorem ix_am {h : Hv} {r : Nat} {xs : List Rat} {a : Nat} (hr : h[r]? = some (Ob.lst (xs.map am))) (ha : a < xs.length) : opIx (.ref r) (.int a) h = .ok (am (xs.getD a 0)) h := by
  rw [ix_ref _ _ _ _ hr, at_nat, List.getElem?_map, List.getElem?_eq_getElem ha]
  simp [ha]
theorem set_am {h : Hv} {r : Nat} {xs : List Rat} {a : Nat} (hr : h[r]? = some (Ob.lst (xs.map am))) (ha : a < xs.length) (x : Rat) : setL (.ref r) (.int a) (am x) h = some (h.set r (Ob.lst ((xs.set a x).map am))) := by
  rw [setL_ok hr (by simpa using ha), List.map_set]
theorem app_am2 {h : Hv} {r : Nat} {xs : List Rat} (hr : h[r]? = some (Ob.lst (xs.map am))) (hl : xs.length ≤ 900) (x : Rat) : mAppend (.ref r) [am x] h = .ok .non (h.set r (Ob.lst ((xs ++ [x]).map am))) := by
  rw [app_ref hr (by simpa using hl), List.map_append]; rfl
theorem lt_of {h : Hv} {r : Nat} {o : Ob} (hr : h[r]? = some o) : r < h.length := (List.getElem?_eq_some_iff.1 hr).1
theorem get_set {h : Hv} {r : Nat} {o o2 : Ob} (hr : h[r]? = some o) : (h.set r o2)[r]? = some o2 := List.getElem?_set_self (lt_of hr)
theorem Al.bn {M : Nat} {s : Sta} {mine : List Rat} (al : Al M s mine) {a : Nat} (ha : a < s.ls.length) (hn : (at_ s.ls a).n ≤ 2 ^ 140) : Bn M (2 ^ 140) (mine.getD a 0) := by
  obtain ⟨d1, d2, d3⟩ := al.bd a ha
  refine ⟨d1, ?_, ?_⟩
  · have := rat_nat_nn (2 ^ 140); grind
  · have : (((at_ s.ls a).n : Int) : Rat) ≤ (((2 ^ 140 : Nat) : Int) : Rat) := Rat.intCast_le_intCast.2 (by omega)
    rw [rcast] at this
    grind
theorem one140 : 2 ^ 140 ≤ 2 ^ 4000 := Nat.pow_le_pow_right (by decide) (by decide)
theorem part_eq (q : Rat) (N : Nat) : mkRat q.num (q.den * N) = q * mkRat 1 N := by
  conv => rhs; rw [← Rat.mkRat_self q]
  rw [Rat.mkRat_mul_mkRat, Int.mul_one]
section
variable {M P K t Mg : Nat} {s : Sta} {mine : List Rat} (al : Al M s mine) (hM : M < 2 ^ 3000) (F : Facts P K Mg s)
include al hM F
theorem given_by_ok (k : Nat) {a : Nat} {m : Int} (ha : a < s.ls.length) (m1 : 1 ≤ m) (m2 : m ≤ (at_ s.ls a).n) (h : Hv) (r : Nat) (hr : h[r]? = some (Ob.lst (mine.map am))) :
    callK T (k + 5) "given_by" [.ref r, lsD s.ls, .int a, .int m] h = .ok (am (alPart s.ls mine a)) (h.set r (Ob.lst ((alGive s.ls mine a m).map am))) := by
  obtain ⟨N, eN, N0, e, q1, q2, q3, q4⟩ := part_facts2 al ha (by omega)
  have nb := F.n _ (at_mem ha)
  have len := al.len
  have b1 := al.bn ha (by omega)
  have M4 : M < 2 ^ 4000 := Nat.lt_of_lt_of_le hM (Nat.pow_le_pow_right (by decide) (by decide))
  have f1 : Fit (mine.getD a 0) := fitc b1 al.M0 M4 one140
  have xl : ∀ h, opIx (lsD s.ls) (.int a) h = .ok (ldD (at_ s.ls a)) h := fun h => ix_ls (at_some ha)
  have MN : M * N < 2 ^ 4000 := Nat.lt_of_lt_of_le (Nat.mul_lt_mul_of_lt_of_le hM (show N ≤ 2 ^ 140 by omega) (Nat.two_pow_pos _)) (by rw [← Nat.pow_add]; exact Nat.pow_le_pow_right (by decide) (by decide))
  have MN0 : 0 < M * N := Nat.mul_pos al.M0 N0
  have bp : Bn (M * N) 1 (alPart s.ls mine a) := ⟨q1, by grind, by simpa using q3⟩
  have fp : Fit (alPart s.ls mine a) := fitc bp MN0 MN (Nat.one_le_two_pow)
  have d0 : 0 < (mine.getD a 0).den * N := Nat.mul_pos (Rat.den_pos _) N0
  have dle : (mine.getD a 0).den * N ≤ M * N := Nat.mul_le_mul_right _ (Nat.le_of_dvd al.M0 b1.den)
  have md := made_ok (k + 2) (mine.getD a 0).num ((mine.getD a 0).den * N) h d0 (Nat.lt_of_le_of_lt dle (Nat.lt_of_lt_of_le MN (Nat.pow_le_pow_right (by decide) (by decide))))
  rw [part_eq, ← e, Int.natCast_mul] at md
  have mm := mul_m (h := h) (i := ((mine.getD a 0).den : Int)) (j := (N : Int)) (by simpa using f1.dd) (Nat.lt_of_le_of_lt (show ((N : Int)).natAbs ≤ 2 ^ 140 by omega) (Nat.pow_lt_pow_right (by decide) (by decide)))
  have sm := so_many_ok (k + 1) m (alPart s.ls mine a) h (Nat.lt_of_le_of_lt (show m.natAbs ≤ 2 ^ 140 by omega) (Nat.pow_lt_pow_right (by decide) (by decide))) fp
  have bm : Bn (M * N) (2 ^ 140) ((m : Rat) * alPart s.ls mine a) := by
    have := (Bn.int (n := m) (c := 2 ^ 140) (by omega)).mul bp
    rwa [Nat.one_mul, Nat.mul_one] at this
  have ls := less_ok (k + 1) (mine.getD a 0) ((m : Rat) * alPart s.ls mine a) h f1 (fitc bm MN0 MN one140)
  refine fn_put (g := []) t_given_by rfl ?_ (lt_of hr) rfl (amr _)
  simp only [R_given_by, F_given_by, u_seq, u_asg, u_call, u_exp, u_if, u_ret, u_setS, u_par, u_nx, nxt_nx, nxt_rt, u_list, u_list0, u_var, u_con, u_bin, u_un1, u_and, u_or, u_chain, u_ite, u_blt, u_tup, u_lst, u_slc, u_opt, u_opt0, im_int, u_nm, u_tgs, u_tgs0, u_tupT, List.getElem?_cons_succ, List.getElem?_cons_zero, bind_ok, thenS_ok, thenI_ok, List.length_cons, List.length_nil, Nat.reduceAdd, Nat.reduceSub, Nat.reduceLT, Nat.reduceLeDiff, Nat.zero_le, if_true, om_some, List.set_cons_succ, List.set_cons_zero, bm_bl, Bool.not_true, Bool.not_false, Bool.false_eq_true, if_false, u_add, u_sub, u_neg, u_not, u_lt, u_le, u_gt, u_ge, u_eqI, u_neI, decide_true, decide_false, u_int, u_intb, methF, List.map_cons, List.map_nil, List.replicate, List.cons_append, List.nil_append, ix_am hr (by omega : a < mine.length), ix_am0, ix_am1, xl, ix_l1, eN, mm, md, sm, ls, set_am hr (by omega : a < mine.length)]
  simp [alGive]
theorem do_alone_ok (k : Nat) {d : Dd} (c : Can P K s d) (p : Nat) (h : Hv) (r : Nat) (hr : h[r]? = some (Ob.lst (mine.map am))) :
    callK T (k + 6) "do_alone" [.ref r, lsD s.ls, d.d, .int p] h = .ok .non (h.set r (Ob.lst ((alStep p s.ls mine d).map am))) := by
  have len := al.len
  have Fl := F.len
  have il := isl_of hr
  have nb : ∀ a, a < s.ls.length → (at_ s.ls a).n ≤ 2 ^ 140 := fun a ha => by have := F.n _ (at_mem ha); omega
  have M4 : M < 2 ^ 4000 := Nat.lt_of_lt_of_le hM (Nat.pow_le_pow_right (by decide) (by decide))
  have zero : D.tup [.int 0, .int 1] = am 0 := rfl
  cases d with
  | bring q kd n =>
    have ap := app_am2 hr (by omega) (if q = p then (n : Rat) else 0)
    have ic : ((q : Int) = (p : Int)) ↔ q = p := by omega
    refine fn_putn (g := []) (e := [some (.ref r), some (lsD s.ls), some (Dd.bring q kd n).d, some (.int p), some (.str (Dd.bring q kd n).w)]) t_do_alone rfl ?_ (lt_of hr) (amr _)
    rw [List.append_nil]
    by_cases e : q = p
    · rw [if_pos e] at ap
      rw [← am_int] at ap
      simp only [R_do_alone, F_do_alone, u_seq, u_asg, u_call, u_exp, u_if, u_ret, u_setS, u_par, u_nx, nxt_nx, nxt_rt, u_list, u_list0, u_var, u_con, u_bin, u_un1, u_and, u_or, u_chain, u_ite, u_blt, u_tup, u_lst, u_slc, u_opt, u_opt0, im_int, u_nm, u_tgs, u_tgs0, u_tupT, List.getElem?_cons_succ, List.getElem?_cons_zero, bind_ok, thenS_ok, thenI_ok, List.length_cons, List.length_nil, Nat.reduceAdd, Nat.reduceSub, Nat.reduceLT, Nat.reduceLeDiff, Nat.zero_le, if_true, om_some, List.set_cons_succ, List.set_cons_zero, bm_bl, Bool.not_true, Bool.not_false, Bool.false_eq_true, if_false, u_add, u_sub, u_neg, u_not, u_lt, u_le, u_gt, u_ge, u_eqI, u_neI, decide_true, decide_false, u_int, u_intb, methF, List.map_cons, List.map_nil, List.replicate, List.cons_append, List.nil_append, Dd.eqW "bring" (by decide +kernel), Dd.eqW "pool" (by decide +kernel), Dd.eqW "swap" (by decide +kernel), Dd.eqW "trade" (by decide +kernel), Dd.ix0, in_st, in_wt, iw_bring_bring, iw_bring_pool, iw_bring_swap, iw_bring_trade, iw_bring_spoil, iw_bring_throw, iw_bring_sell, iw_pool_bring, iw_pool_pool, iw_pool_swap, iw_pool_trade, iw_pool_spoil, iw_pool_throw, iw_pool_sell, iw_swap_bring, iw_swap_pool, iw_swap_swap, iw_swap_trade, iw_swap_spoil, iw_swap_throw, iw_swap_sell, iw_trade_bring, iw_trade_pool, iw_trade_swap, iw_trade_trade, iw_trade_spoil, iw_trade_throw, iw_trade_sell, iw_spoil_bring, iw_spoil_pool, iw_spoil_swap, iw_spoil_trade, iw_spoil_spoil, iw_spoil_throw, iw_spoil_sell, iw_throw_bring, iw_throw_pool, iw_throw_swap, iw_throw_trade, iw_throw_spoil, iw_throw_throw, iw_throw_sell, iw_sell_bring, iw_sell_pool, iw_sell_swap, iw_sell_trade, iw_sell_spoil, iw_sell_throw, iw_sell_sell, ix_bring1, ix_bring2, ix_bring3, ix_pool1, ix_pool2, ix_swap1, ix_swap2, ix_swap3, ix_swap4, ix_trade1, ix_trade2, ix_trade3, ix_trade4, ix_trade5, ix_spoil1, ix_spoil2, ix_throw1, ix_throw2, ix_sell1, ix_sell2, decide_eq_true_eq, ic, e, il, ap, alStep]
    · rw [if_neg e] at ap
      simp only [R_do_alone, F_do_alone, u_seq, u_asg, u_call, u_exp, u_if, u_ret, u_setS, u_par, u_nx, nxt_nx, nxt_rt, u_list, u_list0, u_var, u_con, u_bin, u_un1, u_and, u_or, u_chain, u_ite, u_blt, u_tup, u_lst, u_slc, u_opt, u_opt0, im_int, u_nm, u_tgs, u_tgs0, u_tupT, List.getElem?_cons_succ, List.getElem?_cons_zero, bind_ok, thenS_ok, thenI_ok, List.length_cons, List.length_nil, Nat.reduceAdd, Nat.reduceSub, Nat.reduceLT, Nat.reduceLeDiff, Nat.zero_le, if_true, om_some, List.set_cons_succ, List.set_cons_zero, bm_bl, Bool.not_true, Bool.not_false, Bool.false_eq_true, if_false, u_add, u_sub, u_neg, u_not, u_lt, u_le, u_gt, u_ge, u_eqI, u_neI, decide_true, decide_false, u_int, u_intb, methF, List.map_cons, List.map_nil, List.replicate, List.cons_append, List.nil_append, Dd.eqW "bring" (by decide +kernel), Dd.eqW "pool" (by decide +kernel), Dd.eqW "swap" (by decide +kernel), Dd.eqW "trade" (by decide +kernel), Dd.ix0, in_st, in_wt, iw_bring_bring, iw_bring_pool, iw_bring_swap, iw_bring_trade, iw_bring_spoil, iw_bring_throw, iw_bring_sell, iw_pool_bring, iw_pool_pool, iw_pool_swap, iw_pool_trade, iw_pool_spoil, iw_pool_throw, iw_pool_sell, iw_swap_bring, iw_swap_pool, iw_swap_swap, iw_swap_trade, iw_swap_spoil, iw_swap_throw, iw_swap_sell, iw_trade_bring, iw_trade_pool, iw_trade_swap, iw_trade_trade, iw_trade_spoil, iw_trade_throw, iw_trade_sell, iw_spoil_bring, iw_spoil_pool, iw_spoil_swap, iw_spoil_trade, iw_spoil_spoil, iw_spoil_throw, iw_spoil_sell, iw_throw_bring, iw_throw_pool, iw_throw_swap, iw_throw_trade, iw_throw_spoil, iw_throw_throw, iw_throw_sell, iw_sell_bring, iw_sell_pool, iw_sell_swap, iw_sell_trade, iw_sell_spoil, iw_sell_throw, iw_sell_sell, ix_bring1, ix_bring2, ix_bring3, ix_pool1, ix_pool2, ix_swap1, ix_swap2, ix_swap3, ix_swap4, ix_trade1, ix_trade2, ix_trade3, ix_trade4, ix_trade5, ix_spoil1, ix_spoil2, ix_throw1, ix_throw2, ix_sell1, ix_sell2, decide_eq_true_eq, ic, e, il, zero, ap, alStep]
  | pool a b =>
    obtain ⟨hab, ha, hb, n1, n2, hk⟩ := c
    have pl := plus_ok (k + 2) (mine.getD a 0) (mine.getD b 0) h (fitc (al.bn ha (nb a ha)) al.M0 M4 one140) (fitc (al.bn hb (nb b hb)) al.M0 M4 one140)
    have ap := app_am2 hr (by omega) (mine.getD a 0 + mine.getD b 0)
    have hr2 := get_set (o2 := Ob.lst ((mine ++ [mine.getD a 0 + mine.getD b 0]).map am)) hr
    have s1 := set_am (a := a) hr2 (by simp; omega) 0
    rw [List.set_set] at s1
    have hr3 := get_set (o2 := Ob.lst (((mine ++ [mine.getD a 0 + mine.getD b 0]).set a 0).map am)) hr
    have s2 := set_am (a := b) hr3 (by simp; omega) 0
    rw [List.set_set] at s2
    refine fn_putn (g := []) (e := [some (.ref r), some (lsD s.ls), some (Dd.pool a b).d, some (.int p), some (.str (Dd.pool a b).w)]) t_do_alone rfl ?_ (lt_of hr) (amr _)
    rw [List.append_nil]
    simp only [R_do_alone, F_do_alone, u_seq, u_asg, u_call, u_exp, u_if, u_ret, u_setS, u_par, u_nx, nxt_nx, nxt_rt, u_list, u_list0, u_var, u_con, u_bin, u_un1, u_and, u_or, u_chain, u_ite, u_blt, u_tup, u_lst, u_slc, u_opt, u_opt0, im_int, u_nm, u_tgs, u_tgs0, u_tupT, List.getElem?_cons_succ, List.getElem?_cons_zero, bind_ok, thenS_ok, thenI_ok, List.length_cons, List.length_nil, Nat.reduceAdd, Nat.reduceSub, Nat.reduceLT, Nat.reduceLeDiff, Nat.zero_le, if_true, om_some, List.set_cons_succ, List.set_cons_zero, bm_bl, Bool.not_true, Bool.not_false, Bool.false_eq_true, if_false, u_add, u_sub, u_neg, u_not, u_lt, u_le, u_gt, u_ge, u_eqI, u_neI, decide_true, decide_false, u_int, u_intb, methF, List.map_cons, List.map_nil, List.replicate, List.cons_append, List.nil_append, Dd.eqW "bring" (by decide +kernel), Dd.eqW "pool" (by decide +kernel), Dd.eqW "swap" (by decide +kernel), Dd.eqW "trade" (by decide +kernel), Dd.ix0, in_st, in_wt, iw_bring_bring, iw_bring_pool, iw_bring_swap, iw_bring_trade, iw_bring_spoil, iw_bring_throw, iw_bring_sell, iw_pool_bring, iw_pool_pool, iw_pool_swap, iw_pool_trade, iw_pool_spoil, iw_pool_throw, iw_pool_sell, iw_swap_bring, iw_swap_pool, iw_swap_swap, iw_swap_trade, iw_swap_spoil, iw_swap_throw, iw_swap_sell, iw_trade_bring, iw_trade_pool, iw_trade_swap, iw_trade_trade, iw_trade_spoil, iw_trade_throw, iw_trade_sell, iw_spoil_bring, iw_spoil_pool, iw_spoil_swap, iw_spoil_trade, iw_spoil_spoil, iw_spoil_throw, iw_spoil_sell, iw_throw_bring, iw_throw_pool, iw_throw_swap, iw_throw_trade, iw_throw_spoil, iw_throw_throw, iw_throw_sell, iw_sell_bring, iw_sell_pool, iw_sell_swap, iw_sell_trade, iw_sell_spoil, iw_sell_throw, iw_sell_sell, ix_bring1, ix_bring2, ix_bring3, ix_pool1, ix_pool2, ix_swap1, ix_swap2, ix_swap3, ix_swap4, ix_trade1, ix_trade2, ix_trade3, ix_trade4, ix_trade5, ix_spoil1, ix_spoil2, ix_throw1, ix_throw2, ix_sell1, ix_sell2, il, ix_am hr (by omega : a < mine.length), ix_am hr (by omega : b < mine.length), pl, ap, zero, s1, s2, alStep]
  | swap a g kd n =>
    obtain ⟨ha, g1, g2, _, _, n1, n2⟩ := c
    obtain ⟨N, eN, N0, e, q1, q2, q3, q4⟩ := part_facts2 al ha (by omega)
    have gb := given_by_ok al hM F k ha g1 g2 h r hr
    have MN : M * N < 2 ^ 4000 := Nat.lt_of_lt_of_le (Nat.mul_lt_mul_of_lt_of_le hM (show N ≤ 2 ^ 140 by have := nb a ha; omega) (Nat.two_pow_pos _)) (by rw [← Nat.pow_add]; exact Nat.pow_le_pow_right (by decide) (by decide))
    have MN0 : 0 < M * N := Nat.mul_pos al.M0 N0
    have fp : Fit (alPart s.ls mine a) := fitc (⟨q1, by grind, by simpa using q3⟩ : Bn (M * N) 1 _) MN0 MN (Nat.one_le_two_pow)
    have hr2 := get_set (o2 := Ob.lst ((alGive s.ls mine a g).map am)) hr
    have sm := so_many_ok (k + 2) n (alPart s.ls mine a) (h.set r (Ob.lst ((alGive s.ls mine a g).map am))) (Nat.lt_of_le_of_lt (show n.natAbs ≤ 2 ^ 140 by omega) (Nat.pow_lt_pow_right (by decide) (by decide))) fp
    have ap := app_am2 hr2 (by simp [alGive]; omega) ((n : Rat) * alPart s.ls mine a)
    rw [List.set_set] at ap
    refine fn_putn (g := []) (e := [some (.ref r), some (lsD s.ls), some (Dd.swap a g kd n).d, some (.int p), some (.str (Dd.swap a g kd n).w)]) t_do_alone rfl ?_ (lt_of hr) (amr _)
    rw [List.append_nil]
    simp only [R_do_alone, F_do_alone, u_seq, u_asg, u_call, u_exp, u_if, u_ret, u_setS, u_par, u_nx, nxt_nx, nxt_rt, u_list, u_list0, u_var, u_con, u_bin, u_un1, u_and, u_or, u_chain, u_ite, u_blt, u_tup, u_lst, u_slc, u_opt, u_opt0, im_int, u_nm, u_tgs, u_tgs0, u_tupT, List.getElem?_cons_succ, List.getElem?_cons_zero, bind_ok, thenS_ok, thenI_ok, List.length_cons, List.length_nil, Nat.reduceAdd, Nat.reduceSub, Nat.reduceLT, Nat.reduceLeDiff, Nat.zero_le, if_true, om_some, List.set_cons_succ, List.set_cons_zero, bm_bl, Bool.not_true, Bool.not_false, Bool.false_eq_true, if_false, u_add, u_sub, u_neg, u_not, u_lt, u_le, u_gt, u_ge, u_eqI, u_neI, decide_true, decide_false, u_int, u_intb, methF, List.map_cons, List.map_nil, List.replicate, List.cons_append, List.nil_append, Dd.eqW "bring" (by decide +kernel), Dd.eqW "pool" (by decide +kernel), Dd.eqW "swap" (by decide +kernel), Dd.eqW "trade" (by decide +kernel), Dd.ix0, in_st, in_wt, iw_bring_bring, iw_bring_pool, iw_bring_swap, iw_bring_trade, iw_bring_spoil, iw_bring_throw, iw_bring_sell, iw_pool_bring, iw_pool_pool, iw_pool_swap, iw_pool_trade, iw_pool_spoil, iw_pool_throw, iw_pool_sell, iw_swap_bring, iw_swap_pool, iw_swap_swap, iw_swap_trade, iw_swap_spoil, iw_swap_throw, iw_swap_sell, iw_trade_bring, iw_trade_pool, iw_trade_swap, iw_trade_trade, iw_trade_spoil, iw_trade_throw, iw_trade_sell, iw_spoil_bring, iw_spoil_pool, iw_spoil_swap, iw_spoil_trade, iw_spoil_spoil, iw_spoil_throw, iw_spoil_sell, iw_throw_bring, iw_throw_pool, iw_throw_swap, iw_throw_trade, iw_throw_spoil, iw_throw_throw, iw_throw_sell, iw_sell_bring, iw_sell_pool, iw_sell_swap, iw_sell_trade, iw_sell_spoil, iw_sell_throw, iw_sell_sell, ix_bring1, ix_bring2, ix_bring3, ix_pool1, ix_pool2, ix_swap1, ix_swap2, ix_swap3, ix_swap4, ix_trade1, ix_trade2, ix_trade3, ix_trade4, ix_trade5, ix_spoil1, ix_spoil2, ix_throw1, ix_throw2, ix_sell1, ix_sell2, il, gb, sm, ap, alStep]
  | trade no a g kd n =>
    obtain ⟨_, ha, g1, g2, _, _, n1, n2⟩ := c
    obtain ⟨N, eN, N0, e, q1, q2, q3, q4⟩ := part_facts2 al ha (by omega)
    have gb := given_by_ok al hM F k ha g1 g2 h r hr
    have MN : M * N < 2 ^ 4000 := Nat.lt_of_lt_of_le (Nat.mul_lt_mul_of_lt_of_le hM (show N ≤ 2 ^ 140 by have := nb a ha; omega) (Nat.two_pow_pos _)) (by rw [← Nat.pow_add]; exact Nat.pow_le_pow_right (by decide) (by decide))
    have MN0 : 0 < M * N := Nat.mul_pos al.M0 N0
    have fp : Fit (alPart s.ls mine a) := fitc (⟨q1, by grind, by simpa using q3⟩ : Bn (M * N) 1 _) MN0 MN (Nat.one_le_two_pow)
    have hr2 := get_set (o2 := Ob.lst ((alGive s.ls mine a g).map am)) hr
    have sm := so_many_ok (k + 2) n (alPart s.ls mine a) (h.set r (Ob.lst ((alGive s.ls mine a g).map am))) (Nat.lt_of_le_of_lt (show n.natAbs ≤ 2 ^ 140 by omega) (Nat.pow_lt_pow_right (by decide) (by decide))) fp
    have ap := app_am2 hr2 (by simp [alGive]; omega) ((n : Rat) * alPart s.ls mine a)
    rw [List.set_set] at ap
    refine fn_putn (g := []) (e := [some (.ref r), some (lsD s.ls), some (Dd.trade no a g kd n).d, some (.int p), some (.str (Dd.trade no a g kd n).w)]) t_do_alone rfl ?_ (lt_of hr) (amr _)
    rw [List.append_nil]
    simp only [R_do_alone, F_do_alone, u_seq, u_asg, u_call, u_exp, u_if, u_ret, u_setS, u_par, u_nx, nxt_nx, nxt_rt, u_list, u_list0, u_var, u_con, u_bin, u_un1, u_and, u_or, u_chain, u_ite, u_blt, u_tup, u_lst, u_slc, u_opt, u_opt0, im_int, u_nm, u_tgs, u_tgs0, u_tupT, List.getElem?_cons_succ, List.getElem?_cons_zero, bind_ok, thenS_ok, thenI_ok, List.length_cons, List.length_nil, Nat.reduceAdd, Nat.reduceSub, Nat.reduceLT, Nat.reduceLeDiff, Nat.zero_le, if_true, om_some, List.set_cons_succ, List.set_cons_zero, bm_bl, Bool.not_true, Bool.not_false, Bool.false_eq_true, if_false, u_add, u_sub, u_neg, u_not, u_lt, u_le, u_gt, u_ge, u_eqI, u_neI, decide_true, decide_false, u_int, u_intb, methF, List.map_cons, List.map_nil, List.replicate, List.cons_append, List.nil_append, Dd.eqW "bring" (by decide +kernel), Dd.eqW "pool" (by decide +kernel), Dd.eqW "swap" (by decide +kernel), Dd.eqW "trade" (by decide +kernel), Dd.ix0, in_st, in_wt, iw_bring_bring, iw_bring_pool, iw_bring_swap, iw_bring_trade, iw_bring_spoil, iw_bring_throw, iw_bring_sell, iw_pool_bring, iw_pool_pool, iw_pool_swap, iw_pool_trade, iw_pool_spoil, iw_pool_throw, iw_pool_sell, iw_swap_bring, iw_swap_pool, iw_swap_swap, iw_swap_trade, iw_swap_spoil, iw_swap_throw, iw_swap_sell, iw_trade_bring, iw_trade_pool, iw_trade_swap, iw_trade_trade, iw_trade_spoil, iw_trade_throw, iw_trade_sell, iw_spoil_bring, iw_spoil_pool, iw_spoil_swap, iw_spoil_trade, iw_spoil_spoil, iw_spoil_throw, iw_spoil_sell, iw_throw_bring, iw_throw_pool, iw_throw_swap, iw_throw_trade, iw_throw_spoil, iw_throw_throw, iw_throw_sell, iw_sell_bring, iw_sell_pool, iw_sell_swap, iw_sell_trade, iw_sell_spoil, iw_sell_throw, iw_sell_sell, ix_bring1, ix_bring2, ix_bring3, ix_pool1, ix_pool2, ix_swap1, ix_swap2, ix_swap3, ix_swap4, ix_trade1, ix_trade2, ix_trade3, ix_trade4, ix_trade5, ix_spoil1, ix_spoil2, ix_throw1, ix_throw2, ix_sell1, ix_sell2, il, gb, sm, ap, alStep]
  | spoil a m =>
    have gb := given_by_ok al hM F k c.1 c.2.1 c.2.2 h r hr
    refine fn_putn (g := []) (e := [some (.ref r), some (lsD s.ls), some (Dd.spoil a m).d, some (.int p), some (.str (Dd.spoil a m).w)]) t_do_alone rfl ?_ (lt_of hr) (amr _)
    rw [List.append_nil]
    simp only [R_do_alone, F_do_alone, u_seq, u_asg, u_call, u_exp, u_if, u_ret, u_setS, u_par, u_nx, nxt_nx, nxt_rt, u_list, u_list0, u_var, u_con, u_bin, u_un1, u_and, u_or, u_chain, u_ite, u_blt, u_tup, u_lst, u_slc, u_opt, u_opt0, im_int, u_nm, u_tgs, u_tgs0, u_tupT, List.getElem?_cons_succ, List.getElem?_cons_zero, bind_ok, thenS_ok, thenI_ok, List.length_cons, List.length_nil, Nat.reduceAdd, Nat.reduceSub, Nat.reduceLT, Nat.reduceLeDiff, Nat.zero_le, if_true, om_some, List.set_cons_succ, List.set_cons_zero, bm_bl, Bool.not_true, Bool.not_false, Bool.false_eq_true, if_false, u_add, u_sub, u_neg, u_not, u_lt, u_le, u_gt, u_ge, u_eqI, u_neI, decide_true, decide_false, u_int, u_intb, methF, List.map_cons, List.map_nil, List.replicate, List.cons_append, List.nil_append, Dd.eqW "bring" (by decide +kernel), Dd.eqW "pool" (by decide +kernel), Dd.eqW "swap" (by decide +kernel), Dd.eqW "trade" (by decide +kernel), Dd.ix0, in_st, in_wt, iw_bring_bring, iw_bring_pool, iw_bring_swap, iw_bring_trade, iw_bring_spoil, iw_bring_throw, iw_bring_sell, iw_pool_bring, iw_pool_pool, iw_pool_swap, iw_pool_trade, iw_pool_spoil, iw_pool_throw, iw_pool_sell, iw_swap_bring, iw_swap_pool, iw_swap_swap, iw_swap_trade, iw_swap_spoil, iw_swap_throw, iw_swap_sell, iw_trade_bring, iw_trade_pool, iw_trade_swap, iw_trade_trade, iw_trade_spoil, iw_trade_throw, iw_trade_sell, iw_spoil_bring, iw_spoil_pool, iw_spoil_swap, iw_spoil_trade, iw_spoil_spoil, iw_spoil_throw, iw_spoil_sell, iw_throw_bring, iw_throw_pool, iw_throw_swap, iw_throw_trade, iw_throw_spoil, iw_throw_throw, iw_throw_sell, iw_sell_bring, iw_sell_pool, iw_sell_swap, iw_sell_trade, iw_sell_spoil, iw_sell_throw, iw_sell_sell, ix_bring1, ix_bring2, ix_bring3, ix_pool1, ix_pool2, ix_swap1, ix_swap2, ix_swap3, ix_swap4, ix_trade1, ix_trade2, ix_trade3, ix_trade4, ix_trade5, ix_spoil1, ix_spoil2, ix_throw1, ix_throw2, ix_sell1, ix_sell2, gb, alStep]
  | throw a m ws w =>
    have gb := given_by_ok al hM F k c.1 c.2.1 c.2.2.1 h r hr
    refine fn_putn (g := []) (e := [some (.ref r), some (lsD s.ls), some (Dd.throw a m ws w).d, some (.int p), some (.str (Dd.throw a m ws w).w)]) t_do_alone rfl ?_ (lt_of hr) (amr _)
    rw [List.append_nil]
    simp only [R_do_alone, F_do_alone, u_seq, u_asg, u_call, u_exp, u_if, u_ret, u_setS, u_par, u_nx, nxt_nx, nxt_rt, u_list, u_list0, u_var, u_con, u_bin, u_un1, u_and, u_or, u_chain, u_ite, u_blt, u_tup, u_lst, u_slc, u_opt, u_opt0, im_int, u_nm, u_tgs, u_tgs0, u_tupT, List.getElem?_cons_succ, List.getElem?_cons_zero, bind_ok, thenS_ok, thenI_ok, List.length_cons, List.length_nil, Nat.reduceAdd, Nat.reduceSub, Nat.reduceLT, Nat.reduceLeDiff, Nat.zero_le, if_true, om_some, List.set_cons_succ, List.set_cons_zero, bm_bl, Bool.not_true, Bool.not_false, Bool.false_eq_true, if_false, u_add, u_sub, u_neg, u_not, u_lt, u_le, u_gt, u_ge, u_eqI, u_neI, decide_true, decide_false, u_int, u_intb, methF, List.map_cons, List.map_nil, List.replicate, List.cons_append, List.nil_append, Dd.eqW "bring" (by decide +kernel), Dd.eqW "pool" (by decide +kernel), Dd.eqW "swap" (by decide +kernel), Dd.eqW "trade" (by decide +kernel), Dd.ix0, in_st, in_wt, iw_bring_bring, iw_bring_pool, iw_bring_swap, iw_bring_trade, iw_bring_spoil, iw_bring_throw, iw_bring_sell, iw_pool_bring, iw_pool_pool, iw_pool_swap, iw_pool_trade, iw_pool_spoil, iw_pool_throw, iw_pool_sell, iw_swap_bring, iw_swap_pool, iw_swap_swap, iw_swap_trade, iw_swap_spoil, iw_swap_throw, iw_swap_sell, iw_trade_bring, iw_trade_pool, iw_trade_swap, iw_trade_trade, iw_trade_spoil, iw_trade_throw, iw_trade_sell, iw_spoil_bring, iw_spoil_pool, iw_spoil_swap, iw_spoil_trade, iw_spoil_spoil, iw_spoil_throw, iw_spoil_sell, iw_throw_bring, iw_throw_pool, iw_throw_swap, iw_throw_trade, iw_throw_spoil, iw_throw_throw, iw_throw_sell, iw_sell_bring, iw_sell_pool, iw_sell_swap, iw_sell_trade, iw_sell_spoil, iw_sell_throw, iw_sell_sell, ix_bring1, ix_bring2, ix_bring3, ix_pool1, ix_pool2, ix_swap1, ix_swap2, ix_swap3, ix_swap4, ix_trade1, ix_trade2, ix_trade3, ix_trade4, ix_trade5, ix_spoil1, ix_spoil2, ix_throw1, ix_throw2, ix_sell1, ix_sell2, gb, alStep]
  | sell p' q part =>
    refine fn_putn (g := []) (e := [some (.ref r), some (lsD s.ls), some (Dd.sell p' q part).d, some (.int p), some (.str (Dd.sell p' q part).w)]) t_do_alone rfl ?_ (lt_of hr) (amr _)
    rw [List.append_nil]
    have hs : h.set r (Ob.lst (mine.map am)) = h := by
      apply List.ext_getElem?
      intro i
      by_cases e : r = i
      · subst e; rw [get_set hr, hr]
      · rw [List.getElem?_set_ne e]
    simp only [R_do_alone, F_do_alone, u_seq, u_asg, u_call, u_exp, u_if, u_ret, u_setS, u_par, u_nx, nxt_nx, nxt_rt, u_list, u_list0, u_var, u_con, u_bin, u_un1, u_and, u_or, u_chain, u_ite, u_blt, u_tup, u_lst, u_slc, u_opt, u_opt0, im_int, u_nm, u_tgs, u_tgs0, u_tupT, List.getElem?_cons_succ, List.getElem?_cons_zero, bind_ok, thenS_ok, thenI_ok, List.length_cons, List.length_nil, Nat.reduceAdd, Nat.reduceSub, Nat.reduceLT, Nat.reduceLeDiff, Nat.zero_le, if_true, om_some, List.set_cons_succ, List.set_cons_zero, bm_bl, Bool.not_true, Bool.not_false, Bool.false_eq_true, if_false, u_add, u_sub, u_neg, u_not, u_lt, u_le, u_gt, u_ge, u_eqI, u_neI, decide_true, decide_false, u_int, u_intb, methF, List.map_cons, List.map_nil, List.replicate, List.cons_append, List.nil_append, Dd.eqW "bring" (by decide +kernel), Dd.eqW "pool" (by decide +kernel), Dd.eqW "swap" (by decide +kernel), Dd.eqW "trade" (by decide +kernel), Dd.ix0, in_st, in_wt, iw_bring_bring, iw_bring_pool, iw_bring_swap, iw_bring_trade, iw_bring_spoil, iw_bring_throw, iw_bring_sell, iw_pool_bring, iw_pool_pool, iw_pool_swap, iw_pool_trade, iw_pool_spoil, iw_pool_throw, iw_pool_sell, iw_swap_bring, iw_swap_pool, iw_swap_swap, iw_swap_trade, iw_swap_spoil, iw_swap_throw, iw_swap_sell, iw_trade_bring, iw_trade_pool, iw_trade_swap, iw_trade_trade, iw_trade_spoil, iw_trade_throw, iw_trade_sell, iw_spoil_bring, iw_spoil_pool, iw_spoil_swap, iw_spoil_trade, iw_spoil_spoil, iw_spoil_throw, iw_spoil_sell, iw_throw_bring, iw_throw_pool, iw_throw_swap, iw_throw_trade, iw_throw_spoil, iw_throw_throw, iw_throw_sell, iw_sell_bring, iw_sell_pool, iw_sell_swap, iw_sell_trade, iw_sell_spoil, iw_sell_throw, iw_sell_sell, alStep, hs]
end

theorem Bk.len2 (b : Bk) (h : Hv) : bLen [.tup (b.ds.map Dd.d)] h = .ok (.int b.ds.length) h := by simp
/-- what of a kind, of loads with amounts -/
def kf (zs : List (Ld × Rat)) (kd : Nat) : Rat := ((zs.filter fun z => decide ((z.1.k : Int) = kd)).map fun z => z.2).sum
theorem kf_snoc (zs : List (Ld × Rat)) (z : Ld × Rat) (kd : Nat) : kf (zs ++ [z]) kd = kf zs kd + if z.1.k = kd then z.2 else 0 := by
  by_cases e : z.1.k = kd
  · have : decide ((z.1.k : Int) = kd) = true := by simp; omega
    simp only [kf, List.filter_append, List.filter_cons, List.filter_nil, this, if_true, List.map_append, List.map_cons, List.map_nil, sum_snoc, if_pos e]
  · have : decide ((z.1.k : Int) = kd) = false := by simp; omega
    simp only [kf, List.filter_append, List.filter_cons, List.filter_nil, this, if_neg e]
    simp [Rat.add_zero]
def kinds (K : Nat) (zs : List (Ld × Rat)) : List Rat := (List.range K).map (kf zs)
theorem kinds_snoc {K : Nat} (zs : List (Ld × Rat)) (z : Ld × Rat) (h : z.1.k < K) : kinds K (zs ++ [z]) = (kinds K zs).set z.1.k ((kinds K zs).getD z.1.k 0 + z.2) := by
  apply List.ext_getElem?
  intro i
  have g : (kinds K zs).getD z.1.k 0 = kf zs z.1.k := by simp [kinds, h]
  rw [g]
  by_cases e : z.1.k = i
  · subst e
    rw [List.getElem?_set_self (by simpa [kinds] using h)]
    simp [kinds, h, kf_snoc]
  · rw [List.getElem?_set_ne e]
    simp only [kinds, List.getElem?_map]
    by_cases hi : i < K
    · rw [List.getElem?_range hi]
      simp [kf_snoc, e, Rat.add_zero]
    · rw [List.getElem?_eq_none (by simp; omega)]; rfl
theorem itZ_s {C : Or} {env : Env} {h h1 h2 : Hv} {a b : EF} {x y : D} {α β : Type} {f : α → D} {g : β → D} {as : List α} {bs : List β} {g1 g2 : Guards} (ha : a C env h = .ok x h1) (hb : b C env h1 = .ok y h2) (hx : seqOf x h2 = some (as.map f, g1)) (hy : seqOf y h2 = some (bs.map g, g2)) :
    itZ a b C env h = .ok ((as.zip bs).map fun p => .tup [f p.1, g p.2], g1 ++ g2) h2 := by
  simp [itZ, ha, hb, hx, hy, zipD_map]
def aloneK (b : Bk) (p : Nat) : List Rat := kinds b.K ((b.st b.ds.length).ls.zip (alone b p b.ds.length))
section
variable {n : Nat} {b : Bk} (c : BkC n b) (hn : n ≤ 17)
include c hn
theorem alone_bd {p : Nat} (hp : p < b.P) (m : Nat) (hm : m ≤ b.ds.length) : ∃ M, 0 < M ∧ M < 2 ^ 3000 ∧ Al M (b.st m) (alone b p m) := by
  obtain ⟨M, h1, al⟩ := c.alone hn hp m hm
  have cl := c.len
  exact ⟨M, al.M0, Nat.lt_of_lt_of_le h1 (Nat.pow_le_pow_right (by decide) (by omega)), al⟩
theorem p_had_alone (k p : Nat) (hp : p < b.P) (h : Hv) : callK T (k + 12) "had_alone" [b.d, .int p] h = .ok (.ref h.length) (h ++ [Ob.lst ((alone b p b.ds.length).map am)]) := by
  obtain ⟨M, F⟩ := c.facts hn 0
  have e0 : (b.st 0).ls = b.ls := rfl
  have Fl := F.len
  rw [e0] at Fl
  have l1 := lc_all (C := callK T (k + 11)) (env := [some (b.d), some (.int p), none, none, none, none, none, none]) (it := (itE (binF opIx (varF 0) (conF (.int 1))))) (tg := (tupT [(nmT 5), (nmT 6), (nmT 7)])) (own := [5, 6, 7]) (elt := (callF "so_many" [(varF 6), (binF opIx (varF 7) (varF 1))]))
    (gs := []) (h := h) (h1 := h) (b.ls) (fun l => ldD l) (fun l => am ((l.n : Rat) * l.sh.getD p 0)) (fun l => [some (b.d), some (.int p), none, none, none, some (.int l.k), some (.int l.n), some (shD l.sh)])
    (itE_t (by simp only [u_seq, u_asg, u_call, u_exp, u_if, u_ret, u_setS, u_par, u_nx, nxt_nx, nxt_rt, u_list, u_list0, u_var, u_con, u_bin, u_un1, u_and, u_or, u_chain, u_ite, u_blt, u_tup, u_lst, u_slc, u_opt, u_opt0, im_int, u_nm, u_tgs, u_tgs0, u_tupT, List.getElem?_cons_succ, List.getElem?_cons_zero, bind_ok, thenS_ok, thenI_ok, List.length_cons, List.length_nil, Nat.reduceAdd, Nat.reduceSub, Nat.reduceLT, Nat.reduceLeDiff, Nat.zero_le, if_true, om_some, List.set_cons_succ, List.set_cons_zero, bm_bl, Bool.not_true, Bool.not_false, Bool.false_eq_true, if_false, u_add, u_sub, u_neg, u_not, u_lt, u_le, u_gt, u_ge, u_eqI, u_neI, decide_true, decide_false, u_int, u_intb, methF, List.map_cons, List.map_nil, List.replicate, List.cons_append, List.nil_append, b.ix1]; rfl)) (fun _ => rfl) (fun l hl acc => rfl)
    (fun l hl acc => by
      have sm := so_many_ok (k + 8) l.n (l.sh.getD p 0) (h ++ [Ob.lst acc]) (nbig (F.n l (e0 ▸ hl))) (F.fit (e0 ▸ hl) hp)
      have ix := ix_sh (ss := l.sh) (p := p) (by rw [F.sl l (e0 ▸ hl)]; exact hp) (h ++ [Ob.lst acc])
      simp only [u_seq, u_asg, u_call, u_exp, u_if, u_ret, u_setS, u_par, u_nx, nxt_nx, nxt_rt, u_list, u_list0, u_var, u_con, u_bin, u_un1, u_and, u_or, u_chain, u_ite, u_blt, u_tup, u_lst, u_slc, u_opt, u_opt0, im_int, u_nm, u_tgs, u_tgs0, u_tupT, List.getElem?_cons_succ, List.getElem?_cons_zero, bind_ok, thenS_ok, thenI_ok, List.length_cons, List.length_nil, Nat.reduceAdd, Nat.reduceSub, Nat.reduceLT, Nat.reduceLeDiff, Nat.zero_le, if_true, om_some, List.set_cons_succ, List.set_cons_zero, bm_bl, Bool.not_true, Bool.not_false, Bool.false_eq_true, if_false, u_add, u_sub, u_neg, u_not, u_lt, u_le, u_gt, u_ge, u_eqI, u_neI, decide_true, decide_false, u_int, u_intb, methF, List.map_cons, List.map_nil, List.replicate, List.cons_append, List.nil_append, ix, sm])
    (by omega)
  have eq2 : b.ls.map (fun l => am ((l.n : Rat) * l.sh.getD p 0)) = (alone b p 0).map am := by rw [alone, List.map_map]; rfl
  rw [eq2] at l1
  obtain ⟨env', h', e, ⟨z3, z4, rfl⟩, rfl⟩ := for_upto (C := callK T (k + 11)) (tg := tupT [(nmT 3), (nmT 4)]) (body := F_had_alone_b1) (gs := []) (fun m => .tup [.int (m : Nat), (b.ds.map Dd.d).getD m .non])
    (fun j env h1 => (∃ z3 z4, env = [some b.d, some (.int p), some (.ref h.length), z3, z4, none, none, none]) ∧ h1 = h ++ [Ob.lst ((alone b p j).map am)]) b.ds.length
    (fun _ _ _ _ => rfl)
    (by
      rintro j env h1 hj ⟨⟨z3, z4, rfl⟩, rfl⟩
      have gj : (b.ds.map Dd.d).getD j .non = b.ds[j].d := by simp [hj]
      rw [gj]
      obtain ⟨Mj, Fj⟩ := c.facts hn j
      obtain ⟨Ma, M0, M1, al⟩ := alone_bd c hn hp j (by omega)
      have L := fun h => p_loads_in c hn (k + 1) j (by omega) h
      have da := do_alone_ok al M1 Fj (k + 5) (c.canAt hj).1 p _ h.length (last_at h (Ob.lst ((alone b p j).map am)))
      rw [g_set] at da
      have ea : alStep p (b.st j).ls (alone b p j) b.ds[j] = alone b p (j + 1) := by rw [alone, List.getElem?_eq_getElem hj]
      rw [ea] at da
      refine ⟨_, rfl, [some b.d, some (.int p), some (.ref h.length), some (.int (j : Nat)), some b.ds[j].d, none, none, none], h ++ [Ob.lst ((alone b p (j + 1)).map am)], ?_, ⟨_, _, rfl⟩, rfl⟩
      simp only [F_had_alone_b1, u_seq, u_asg, u_call, u_exp, u_if, u_ret, u_setS, u_par, u_nx, nxt_nx, nxt_rt, u_list, u_list0, u_var, u_con, u_bin, u_un1, u_and, u_or, u_chain, u_ite, u_blt, u_tup, u_lst, u_slc, u_opt, u_opt0, im_int, u_nm, u_tgs, u_tgs0, u_tupT, List.getElem?_cons_succ, List.getElem?_cons_zero, bind_ok, thenS_ok, thenI_ok, List.length_cons, List.length_nil, Nat.reduceAdd, Nat.reduceSub, Nat.reduceLT, Nat.reduceLeDiff, Nat.zero_le, if_true, om_some, List.set_cons_succ, List.set_cons_zero, bm_bl, Bool.not_true, Bool.not_false, Bool.false_eq_true, if_false, u_add, u_sub, u_neg, u_not, u_lt, u_le, u_gt, u_ge, u_eqI, u_neI, decide_true, decide_false, u_int, u_intb, methF, List.map_cons, List.map_nil, List.replicate, List.cons_append, List.nil_append, L, da])
    [some b.d, some (.int p), some (.ref h.length), none, none, none, none, none] (h ++ [Ob.lst ((alone b p 0).map am)]) ⟨⟨_, _, rfl⟩, rfl⟩
  have hit : itN (binF opIx (varF 0) (conF (.int 2))) (callK T (k + 11)) [some b.d, some (.int p), some (.ref h.length), none, none, none, none, none] (h ++ [Ob.lst ((alone b p 0).map am)]) = .ok ((List.range b.ds.length).map fun m => .tup [.int (m : Nat), (b.ds.map Dd.d).getD m .non], []) (h ++ [Ob.lst ((alone b p 0).map am)]) := by
    rw [itN_t (ds := b.ds.map Dd.d) (by simp only [u_seq, u_asg, u_call, u_exp, u_if, u_ret, u_setS, u_par, u_nx, nxt_nx, nxt_rt, u_list, u_list0, u_var, u_con, u_bin, u_un1, u_and, u_or, u_chain, u_ite, u_blt, u_tup, u_lst, u_slc, u_opt, u_opt0, im_int, u_nm, u_tgs, u_tgs0, u_tupT, List.getElem?_cons_succ, List.getElem?_cons_zero, bind_ok, thenS_ok, thenI_ok, List.length_cons, List.length_nil, Nat.reduceAdd, Nat.reduceSub, Nat.reduceLT, Nat.reduceLeDiff, Nat.zero_le, if_true, om_some, List.set_cons_succ, List.set_cons_zero, bm_bl, Bool.not_true, Bool.not_false, Bool.false_eq_true, if_false, u_add, u_sub, u_neg, u_not, u_lt, u_le, u_gt, u_ge, u_eqI, u_neI, decide_true, decide_false, u_int, u_intb, methF, List.map_cons, List.map_nil, List.replicate, List.cons_append, List.nil_append, b.ix2]), List.length_map]
  refine fn_list (g := [Ob.lst ((alone b p b.ds.length).map am)]) (i := 0) t_had_alone rfl ?_ rfl (amr _)
  simp only [R_had_alone, F_had_alone, u_seq, u_asg, u_call, u_exp, u_if, u_ret, u_setS, u_par, u_nx, nxt_nx, nxt_rt, u_list, u_list0, u_var, u_con, u_bin, u_un1, u_and, u_or, u_chain, u_ite, u_blt, u_tup, u_lst, u_slc, u_opt, u_opt0, im_int, u_nm, u_tgs, u_tgs0, u_tupT, List.getElem?_cons_succ, List.getElem?_cons_zero, bind_ok, thenS_ok, thenI_ok, List.length_cons, List.length_nil, Nat.reduceAdd, Nat.reduceSub, Nat.reduceLT, Nat.reduceLeDiff, Nat.zero_le, if_true, om_some, List.set_cons_succ, List.set_cons_zero, bm_bl, Bool.not_true, Bool.not_false, Bool.false_eq_true, if_false, u_add, u_sub, u_neg, u_not, u_lt, u_le, u_gt, u_ge, u_eqI, u_neI, decide_true, decide_false, u_int, u_intb, methF, List.map_cons, List.map_nil, List.replicate, List.cons_append, List.nil_append, l1, u_for, hit, e]
  rfl
/-- what is summed up by kinds stays in bounds -/
theorem kf_fit {p : Nat} (hp : p < b.P) : ∃ M, 0 < M ∧ M < 2 ^ 3000 ∧ (alone b p b.ds.length).length = (b.st b.ds.length).ls.length ∧ (b.st b.ds.length).ls.length ≤ 21 ∧ (∀ z ∈ (b.st b.ds.length).ls.zip (alone b p b.ds.length), z.1.k < b.K ∧ Bn M (2 ^ 140) z.2) ∧ ∀ pre post kd, (b.st b.ds.length).ls.zip (alone b p b.ds.length) = pre ++ post → Bn M (21 * 2 ^ 140) (kf pre kd) := by
  obtain ⟨M, M0, M1, al⟩ := alone_bd c hn hp b.ds.length (Nat.le_refl _)
  obtain ⟨Mg, F⟩ := c.facts hn b.ds.length
  have Fl := F.len
  have key : ∀ z ∈ (b.st b.ds.length).ls.zip (alone b p b.ds.length), z.1.k < b.K ∧ Bn M (2 ^ 140) z.2 := by
    rintro ⟨l, x⟩ hz
    obtain ⟨j, hj⟩ := List.getElem?_of_mem hz
    rw [List.getElem?_zip_eq_some] at hj
    obtain ⟨j1, j2⟩ := hj
    have hl := List.mem_of_getElem? j1
    have lt := (List.getElem?_eq_some_iff.1 j1).1
    have ea := at_some lt
    rw [ea] at j1
    have hx : (alone b p b.ds.length).getD j 0 = x := by simp [j2]
    refine ⟨F.kd l hl, ?_⟩
    rw [← hx]
    exact al.bn lt (by have := F.n _ (at_mem lt); omega)
  refine ⟨M, M0, M1, al.len, Fl, key, fun pre post kd e => ?_⟩
  have := Bn.sum (c := 2 ^ 140) M0 ((pre.filter fun z => decide ((z.1.k : Int) = kd)).map fun z => z.2) (fun x hx => by
    obtain ⟨z, hz, rfl⟩ := List.mem_map.1 hx
    exact (key z (by rw [e]; exact List.mem_append_left _ (List.mem_filter.1 hz).1)).2)
  refine this.mono (Nat.dvd_refl _) (Nat.mul_le_mul_right _ ?_)
  rw [List.length_map]
  have l1 : pre.length ≤ ((b.st b.ds.length).ls.zip (alone b p b.ds.length)).length := by rw [e]; simp
  rw [List.length_zip] at l1
  exact Nat.le_trans (List.length_filter_le ..) (by omega)
theorem p_alone_in (k p : Nat) (hp : p < b.P) (h : Hv) : callK T (k + 13) "alone_in" [b.d, .int p] h = .ok (shD (aloneK b p)) h := by
  obtain ⟨M, M0, M1, len, Fl, key, bf⟩ := kf_fit c hn hp
  have hK := c.K
  have M4 : M < 2 ^ 4000 := Nat.lt_of_lt_of_le M1 (Nat.pow_le_pow_right (by decide) (by decide))
  have c21 : 21 * 2 ^ 140 ≤ 2 ^ 4000 := Nat.le_trans (show 21 * 2 ^ 140 ≤ 2 ^ 150 by decide) (Nat.pow_le_pow_right (by decide) (by decide))
  have L := fun h => p_loads_in c hn (k + 2) b.ds.length (Nat.le_refl _) h
  have A := fun h => p_had_alone c hn k p hp h
  generalize hls : (b.st b.ds.length).ls = ls at *
  generalize hmn : alone b p b.ds.length = mine at *
  have k0 : List.replicate b.K (am 0) = (kinds b.K []).map am := by
    apply List.ext_getElem?
    intro i
    by_cases hi : i < b.K
    · simp [kinds, kf, hi]
    · simp [kinds, hi]
  have mul : opMul (.ref h.length) (.int b.K) (h ++ [Ob.lst [.tup [.int 0, .int 1]]]) = .ok (.ref (h ++ [Ob.lst [.tup [.int 0, .int 1]]]).length) (h ++ [Ob.lst [.tup [.int 0, .int 1]]] ++ [Ob.lst ((kinds b.K []).map am)]) := by
    simp only [opMul, last_at]
    rw [if_pos ⟨by omega, by omega, by simp⟩, ← k0]
    simp
    exact .inr rfl
  obtain ⟨H, hH⟩ : ∃ H, H = h ++ [Ob.lst [.tup [.int 0, .int 1]]] := ⟨_, rfl⟩
  obtain ⟨env', h', e, ⟨z3, z4, rfl⟩, rfl⟩ := for_list (C := callK T (k + 12)) (tg := tupT [(nmT 3), (nmT 4)]) (body := F_alone_in_b1) (gs := [((H ++ [Ob.lst ((kinds b.K []).map am)]).length, mine.map am)]) (fun z : Ld × Rat => .tup [ldD z.1, am z.2])
    (fun pre env h1 => (∃ z3 z4, env = [some b.d, some (.int p), some (.ref H.length), z3, z4]) ∧ h1 = H ++ [Ob.lst ((kinds b.K pre).map am)] ++ [Ob.lst (mine.map am)]) (ls.zip mine)
    (by
      rintro pre env h1 ⟨_, rfl⟩
      have : (H ++ [Ob.lst ((kinds b.K pre).map am)] ++ [Ob.lst (mine.map am)])[(H ++ [Ob.lst ((kinds b.K []).map am)]).length]? = some (Ob.lst (mine.map am)) := by
        rw [show (H ++ [Ob.lst ((kinds b.K []).map am)]).length = (H ++ [Ob.lst ((kinds b.K pre).map am)]).length by simp]
        exact last_at _ _
      simp only [guardsOk, List.all_cons, List.all_nil, Bool.and_true, this]
      simp)
    (by
      rintro pre ⟨l, x⟩ post env h1 ew ⟨⟨z3, z4, rfl⟩, rfl⟩
      obtain ⟨kl, bx⟩ := key ⟨l, x⟩ (mem_of_eq ew)
      simp only at kl bx
      have hr : (H ++ [Ob.lst ((kinds b.K pre).map am)] ++ [Ob.lst (mine.map am)])[H.length]? = some (Ob.lst ((kinds b.K pre).map am)) := row_old (last_at _ _)
      have hlk : l.k < (kinds b.K pre).length := by simpa [kinds] using kl
      have gk : (kinds b.K pre).getD l.k 0 = kf pre l.k := by simp [kinds, kl]
      have pl := plus_ok (k + 9) ((kinds b.K pre).getD l.k 0) x (H ++ [Ob.lst ((kinds b.K pre).map am)] ++ [Ob.lst (mine.map am)]) (by rw [gk]; exact fitc (bf pre _ l.k ew) M0 M4 c21) (fitc bx M0 M4 one140)
      have st := set_am hr hlk ((kinds b.K pre).getD l.k 0 + x)
      rw [← kinds_snoc pre (l, x) kl] at st
      have hset : (H ++ [Ob.lst ((kinds b.K pre).map am)] ++ [Ob.lst (mine.map am)]).set H.length (Ob.lst ((kinds b.K (pre ++ [(l, x)])).map am)) = H ++ [Ob.lst ((kinds b.K (pre ++ [(l, x)])).map am)] ++ [Ob.lst (mine.map am)] := by simp
      rw [hset] at st
      refine ⟨_, rfl, [some b.d, some (.int p), some (.ref H.length), some (ldD l), some (am x)], _, ?_, ⟨_, _, rfl⟩, rfl⟩
      simp only [F_alone_in_b1, u_seq, u_asg, u_call, u_exp, u_if, u_ret, u_setS, u_par, u_nx, nxt_nx, nxt_rt, u_list, u_list0, u_var, u_con, u_bin, u_un1, u_and, u_or, u_chain, u_ite, u_blt, u_tup, u_lst, u_slc, u_opt, u_opt0, im_int, u_nm, u_tgs, u_tgs0, u_tupT, List.getElem?_cons_succ, List.getElem?_cons_zero, bind_ok, thenS_ok, thenI_ok, List.length_cons, List.length_nil, Nat.reduceAdd, Nat.reduceSub, Nat.reduceLT, Nat.reduceLeDiff, Nat.zero_le, if_true, om_some, List.set_cons_succ, List.set_cons_zero, bm_bl, Bool.not_true, Bool.not_false, Bool.false_eq_true, if_false, u_add, u_sub, u_neg, u_not, u_lt, u_le, u_gt, u_ge, u_eqI, u_neI, decide_true, decide_false, u_int, u_intb, methF, List.map_cons, List.map_nil, List.replicate, List.cons_append, List.nil_append, ix_l0, ix_am hr hlk, pl, st])
    (ls.zip mine) [] rfl [some b.d, some (.int p), some (.ref H.length), none, none] (H ++ [Ob.lst ((kinds b.K []).map am)] ++ [Ob.lst (mine.map am)]) ⟨⟨_, _, rfl⟩, rfl⟩
  have hit : itZ (callF "loads_in" [(varF 0), (bltF bLen [(binF opIx (varF 0) (conF (.int 2)))])]) (callF "had_alone" [(varF 0), (varF 1)]) (callK T (k + 12)) [some b.d, some (.int p), some (.ref H.length), none, none] (H ++ [Ob.lst ((kinds b.K []).map am)]) = .ok ((ls.zip mine).map fun z => .tup [ldD z.1, am z.2], [] ++ [((H ++ [Ob.lst ((kinds b.K []).map am)]).length, mine.map am)]) (H ++ [Ob.lst ((kinds b.K []).map am)] ++ [Ob.lst (mine.map am)]) :=
    itZ_s (h1 := H ++ [Ob.lst ((kinds b.K []).map am)]) (x := lsD ls) (y := .ref (H ++ [Ob.lst ((kinds b.K []).map am)]).length) (by simp only [u_seq, u_asg, u_call, u_exp, u_if, u_ret, u_setS, u_par, u_nx, nxt_nx, nxt_rt, u_list, u_list0, u_var, u_con, u_bin, u_un1, u_and, u_or, u_chain, u_ite, u_blt, u_tup, u_lst, u_slc, u_opt, u_opt0, im_int, u_nm, u_tgs, u_tgs0, u_tupT, List.getElem?_cons_succ, List.getElem?_cons_zero, bind_ok, thenS_ok, thenI_ok, List.length_cons, List.length_nil, Nat.reduceAdd, Nat.reduceSub, Nat.reduceLT, Nat.reduceLeDiff, Nat.zero_le, if_true, om_some, List.set_cons_succ, List.set_cons_zero, bm_bl, Bool.not_true, Bool.not_false, Bool.false_eq_true, if_false, u_add, u_sub, u_neg, u_not, u_lt, u_le, u_gt, u_ge, u_eqI, u_neI, decide_true, decide_false, u_int, u_intb, methF, List.map_cons, List.map_nil, List.replicate, List.cons_append, List.nil_append, b.ix2, b.len2, L]) (by simp only [u_seq, u_asg, u_call, u_exp, u_if, u_ret, u_setS, u_par, u_nx, nxt_nx, nxt_rt, u_list, u_list0, u_var, u_con, u_bin, u_un1, u_and, u_or, u_chain, u_ite, u_blt, u_tup, u_lst, u_slc, u_opt, u_opt0, im_int, u_nm, u_tgs, u_tgs0, u_tupT, List.getElem?_cons_succ, List.getElem?_cons_zero, bind_ok, thenS_ok, thenI_ok, List.length_cons, List.length_nil, Nat.reduceAdd, Nat.reduceSub, Nat.reduceLT, Nat.reduceLeDiff, Nat.zero_le, if_true, om_some, List.set_cons_succ, List.set_cons_zero, bm_bl, Bool.not_true, Bool.not_false, Bool.false_eq_true, if_false, u_add, u_sub, u_neg, u_not, u_lt, u_le, u_gt, u_ge, u_eqI, u_neI, decide_true, decide_false, u_int, u_intb, methF, List.map_cons, List.map_nil, List.replicate, List.cons_append, List.nil_append, A]) rfl (by simp only [seqOf, last_at])
  have et : bTuple [.ref H.length] (H ++ [Ob.lst ((kinds b.K (ls.zip mine)).map am)] ++ [Ob.lst (mine.map am)]) = .ok (shD (aloneK b p)) (H ++ [Ob.lst ((kinds b.K (ls.zip mine)).map am)] ++ [Ob.lst (mine.map am)]) := by
    rw [u_tuplel (row_old (last_at _ _)), aloneK, hls, hmn]; rfl
  have mul' := mul
  rw [← hH] at mul'
  refine fn_app (g := [Ob.lst [.tup [.int 0, .int 1]]] ++ [Ob.lst ((kinds b.K (ls.zip mine)).map am)] ++ [Ob.lst (mine.map am)]) t_alone_in rfl ?_ (shD_gr _)
  have fin : h ++ ([Ob.lst [.tup [.int 0, .int 1]]] ++ [Ob.lst ((kinds b.K (ls.zip mine)).map am)] ++ [Ob.lst (mine.map am)]) = H ++ [Ob.lst ((kinds b.K (ls.zip mine)).map am)] ++ [Ob.lst (mine.map am)] := by rw [hH]; simp only [List.append_assoc]
  rw [fin]
  simp only [R_alone_in, F_alone_in, u_seq, u_asg, u_call, u_exp, u_if, u_ret, u_setS, u_par, u_nx, nxt_nx, nxt_rt, u_list, u_list0, u_var, u_con, u_bin, u_un1, u_and, u_or, u_chain, u_ite, u_blt, u_tup, u_lst, u_slc, u_opt, u_opt0, im_int, u_nm, u_tgs, u_tgs0, u_tupT, List.getElem?_cons_succ, List.getElem?_cons_zero, bind_ok, thenS_ok, thenI_ok, List.length_cons, List.length_nil, Nat.reduceAdd, Nat.reduceSub, Nat.reduceLT, Nat.reduceLeDiff, Nat.zero_le, if_true, om_some, List.set_cons_succ, List.set_cons_zero, bm_bl, Bool.not_true, Bool.not_false, Bool.false_eq_true, if_false, u_add, u_sub, u_neg, u_not, u_lt, u_le, u_gt, u_ge, u_eqI, u_neI, decide_true, decide_false, u_int, u_intb, methF, List.map_cons, List.map_nil, List.replicate, List.cons_append, List.nil_append, b.ix0, b.tr1]
  rw [← hH]
  simp only [u_seq, u_asg, u_call, u_exp, u_if, u_ret, u_setS, u_par, u_nx, nxt_nx, nxt_rt, u_list, u_list0, u_var, u_con, u_bin, u_un1, u_and, u_or, u_chain, u_ite, u_blt, u_tup, u_lst, u_slc, u_opt, u_opt0, im_int, u_nm, u_tgs, u_tgs0, u_tupT, List.getElem?_cons_succ, List.getElem?_cons_zero, bind_ok, thenS_ok, thenI_ok, List.length_cons, List.length_nil, Nat.reduceAdd, Nat.reduceSub, Nat.reduceLT, Nat.reduceLeDiff, Nat.zero_le, if_true, om_some, List.set_cons_succ, List.set_cons_zero, bm_bl, Bool.not_true, Bool.not_false, Bool.false_eq_true, if_false, u_add, u_sub, u_neg, u_not, u_lt, u_le, u_gt, u_ge, u_eqI, u_neI, decide_true, decide_false, u_int, u_intb, methF, List.map_cons, List.map_nil, List.replicate, List.cons_append, List.nil_append, mul', u_for, hit, List.nil_append, e, et]
theorem p_alone_of (k p : Nat) (hp : p < b.P) (h : Hv) : callK T (k + 14) "alone_of" [b.d, .int p] h = .ok (shD (aloneK b p)) h := by
  refine fn_same t_alone_of rfl ?_
  simp only [R_alone_of, F_alone_of, u_seq, u_asg, u_call, u_exp, u_if, u_ret, u_setS, u_par, u_nx, nxt_nx, nxt_rt, u_list, u_list0, u_var, u_con, u_bin, u_un1, u_and, u_or, u_chain, u_ite, u_blt, u_tup, u_lst, u_slc, u_opt, u_opt0, im_int, u_nm, u_tgs, u_tgs0, u_tupT, List.getElem?_cons_succ, List.getElem?_cons_zero, bind_ok, thenS_ok, thenI_ok, List.length_cons, List.length_nil, Nat.reduceAdd, Nat.reduceSub, Nat.reduceLT, Nat.reduceLeDiff, Nat.zero_le, if_true, om_some, List.set_cons_succ, List.set_cons_zero, bm_bl, Bool.not_true, Bool.not_false, Bool.false_eq_true, if_false, u_add, u_sub, u_neg, u_not, u_lt, u_le, u_gt, u_ge, u_eqI, u_neI, decide_true, decide_false, u_int, u_intb, methF, List.map_cons, List.map_nil, List.replicate, List.cons_append, List.nil_append, p_need_done c hn (k + 3) h, p_need_partner c hn (k + 9) p hp h, p_alone_in c hn k p hp h]
theorem aloneK_fit {p : Nat} (hp : p < b.P) : ∀ x ∈ aloneK b p, Fit x := by
  obtain ⟨M, M0, M1, len, Fl, key, bf⟩ := kf_fit c hn hp
  intro x hx
  obtain ⟨i, hi, rfl⟩ := List.mem_map.1 hx
  exact fitc (bf _ [] i (by rw [List.append_nil])) M0 (Nat.lt_of_lt_of_le M1 (Nat.pow_le_pow_right (by decide) (by decide))) (Nat.le_trans (show 21 * 2 ^ 140 ≤ 2 ^ 150 by decide) (Nat.pow_le_pow_right (by decide) (by decide)))
theorem p_by_others (k p : Nat) (hp : p < b.P) (h : Hv) : callK T (k + 14) "by_others" [b.d, .int p] h = .ok (shD (subs (theirs b.K (b.st b.ds.length).ls p) (aloneK b p))) h := by
  have hK := c.K
  have th := p_theirs_in c hn (k + 2) b.ds.length p (Nat.le_refl _) hp h
  have al := fun h => p_alone_in c hn k p hp h
  have f1 := theirs_fit c hn b.ds.length hp
  have f2 := aloneK_fit c hn hp
  have l1 : (theirs b.K (b.st b.ds.length).ls p).length ≤ 10 := by simp [theirs]; omega
  generalize theirs b.K (b.st b.ds.length).ls p = xs at *
  generalize aloneK b p = ys at *
  have l2 := lc_all (C := callK T (k + 13)) (env := [some (b.d), some (.int p), some (shD xs), none, none]) (it := (itZ (varF 2) (callF "alone_in" [(varF 0), (varF 1)]))) (tg := (tupT [(nmT 3), (nmT 4)])) (own := [3, 4]) (elt := (callF "less" [(varF 3), (varF 4)]))
    (gs := []) (h := h) (h1 := h) (xs.zip ys) (fun x => .tup [am x.1, am x.2]) (fun x => am (x.1 - x.2)) (fun x => [some (b.d), some (.int p), some (shD xs), some (am x.1), some (am x.2)])
    (itZ_tt rfl (by simp only [u_seq, u_asg, u_call, u_exp, u_if, u_ret, u_setS, u_par, u_nx, nxt_nx, nxt_rt, u_list, u_list0, u_var, u_con, u_bin, u_un1, u_and, u_or, u_chain, u_ite, u_blt, u_tup, u_lst, u_slc, u_opt, u_opt0, im_int, u_nm, u_tgs, u_tgs0, u_tupT, List.getElem?_cons_succ, List.getElem?_cons_zero, bind_ok, thenS_ok, thenI_ok, List.length_cons, List.length_nil, Nat.reduceAdd, Nat.reduceSub, Nat.reduceLT, Nat.reduceLeDiff, Nat.zero_le, if_true, om_some, List.set_cons_succ, List.set_cons_zero, bm_bl, Bool.not_true, Bool.not_false, Bool.false_eq_true, if_false, u_add, u_sub, u_neg, u_not, u_lt, u_le, u_gt, u_ge, u_eqI, u_neI, decide_true, decide_false, u_int, u_intb, methF, List.map_cons, List.map_nil, List.replicate, List.cons_append, List.nil_append, al]; rfl)) (fun _ => rfl) (fun x hx acc => rfl)
    (fun x hx acc => by
      have := less_ok (k + 10) x.1 x.2 (h ++ [Ob.lst acc]) (f1 _ (List.of_mem_zip hx).1) (f2 _ (List.of_mem_zip hx).2)
      simp only [u_seq, u_asg, u_call, u_exp, u_if, u_ret, u_setS, u_par, u_nx, nxt_nx, nxt_rt, u_list, u_list0, u_var, u_con, u_bin, u_un1, u_and, u_or, u_chain, u_ite, u_blt, u_tup, u_lst, u_slc, u_opt, u_opt0, im_int, u_nm, u_tgs, u_tgs0, u_tupT, List.getElem?_cons_succ, List.getElem?_cons_zero, bind_ok, thenS_ok, thenI_ok, List.length_cons, List.length_nil, Nat.reduceAdd, Nat.reduceSub, Nat.reduceLT, Nat.reduceLeDiff, Nat.zero_le, if_true, om_some, List.set_cons_succ, List.set_cons_zero, bm_bl, Bool.not_true, Bool.not_false, Bool.false_eq_true, if_false, u_add, u_sub, u_neg, u_not, u_lt, u_le, u_gt, u_ge, u_eqI, u_neI, decide_true, decide_false, u_int, u_intb, methF, List.map_cons, List.map_nil, List.replicate, List.cons_append, List.nil_append, this])
    (by rw [List.length_zip]; omega)
  have et : bTuple [.ref h.length] (h ++ [Ob.lst ((xs.zip ys).map fun x => am (x.1 - x.2))]) = .ok (shD (subs xs ys)) (h ++ [Ob.lst ((xs.zip ys).map fun x => am (x.1 - x.2))]) := by
    rw [u_tuplel (last_at _ _), shD, subs, List.map_map]; rfl
  refine fn_app (g := [Ob.lst ((xs.zip ys).map fun x => am (x.1 - x.2))]) t_by_others rfl ?_ (shD_gr _)
  simp only [R_by_others, F_by_others, u_seq, u_asg, u_call, u_exp, u_if, u_ret, u_setS, u_par, u_nx, nxt_nx, nxt_rt, u_list, u_list0, u_var, u_con, u_bin, u_un1, u_and, u_or, u_chain, u_ite, u_blt, u_tup, u_lst, u_slc, u_opt, u_opt0, im_int, u_nm, u_tgs, u_tgs0, u_tupT, List.getElem?_cons_succ, List.getElem?_cons_zero, bind_ok, thenS_ok, thenI_ok, List.length_cons, List.length_nil, Nat.reduceAdd, Nat.reduceSub, Nat.reduceLT, Nat.reduceLeDiff, Nat.zero_le, if_true, om_some, List.set_cons_succ, List.set_cons_zero, bm_bl, Bool.not_true, Bool.not_false, Bool.false_eq_true, if_false, u_add, u_sub, u_neg, u_not, u_lt, u_le, u_gt, u_ge, u_eqI, u_neI, decide_true, decide_false, u_int, u_intb, methF, List.map_cons, List.map_nil, List.replicate, List.cons_append, List.nil_append, p_need_done c hn (k + 3) h, p_need_partner c hn (k + 9) p hp h, b.ix2, b.len2, th, l2, et]
end

section
variable {M P K t Mg : Nat} {s : Sta} {mine : List Rat} (al : Al M s mine) (hM : M < 2 ^ 3000) (F : Facts P K Mg s)
include al hM F
end
section
variable {n : Nat} {b : Bk} (c : BkC n b) (hn : n ≤ 17)
include c hn
end

/-! alone, all together -/
def alRun (P : Nat) (B : Int) (p : Nat) : Sta → List Rat → List Dd → List Rat
  | _, mine, [] => mine
  | s, mine, d :: ds => alRun P B p (after1 P B s d) (alStep p s.ls mine d) ds
theorem alRun_app {P : Nat} {B : Int} {p : Nat} : ∀ (ds es : List Dd) (s : Sta) (mine : List Rat), alRun P B p s mine (ds ++ es) = alRun P B p (runS P B s ds) (alRun P B p s mine ds) es
  | [], es, s, mine => rfl
  | d :: ds, es, s, mine => by
    simp only [List.cons_append, alRun]
    exact alRun_app ds es _ _
theorem alone_run (b : Bk) (p : Nat) : ∀ (m : Nat), m ≤ b.ds.length → alone b p m = alRun b.P b.B p b.s0 (alone b p 0) (b.ds.take m)
  | 0, _ => by simp [alRun]
  | m + 1, hm => by
    have h : m < b.ds.length := by omega
    have e : alone b p (m + 1) = alStep p (b.st m).ls (alone b p m) b.ds[m] := by
      rw [alone]; simp only [List.getElem?_eq_getElem h]
    rw [e, List.take_add_one, alRun_app, ← alone_run b p m (by omega)]
    simp only [List.getElem?_eq_getElem h, Option.toList, alRun]
    rfl
theorem alPart_alike {s u : Sta} (a : Alike s u) (mine : List Rat) (i : Nat) : alPart s.ls mine i = alPart u.ls mine i := by simp only [alPart, (a.at i).2]
theorem alStep_alike {s u : Sta} (a : Alike s u) (p : Nat) (mine : List Rat) (d : Dd) : alStep p s.ls mine d = alStep p u.ls mine d := by cases d <;> simp only [alStep, alGive, alPart_alike a]
theorem alRun_alike {P : Nat} {B : Int} {p : Nat} : ∀ (ds : List Dd) {s u : Sta} (mine : List Rat), Alike s u → alRun P B p s mine ds = alRun P B p u mine ds
  | [], s, u, mine, a => rfl
  | d :: ds, s, u, mine, a => by
    simp only [alRun, alStep_alike a]
    exact alRun_alike ds _ (a.after d)
def plD : Dd → List Dd
  | .throw a n _ _ => [.spoil a n]
  | .sell _ _ _ => []
  | d => [d]
def plain (ds : List Dd) : List Dd := ds.flatMap plD
theorem plain_step {P K : Nat} {B : Int} {p : Nat} {s u : Sta} (mine : List Rat) (a : Alike s u) {d : Dd} (c : Can P K s d) :
    Cans P K B u (plD d) ∧ Alike (after1 P B s d) (runS P B u (plD d)) ∧ alRun P B p u mine (plD d) = alStep p s.ls mine d := by
  cases d with
  | throw i n ws w =>
    refine ⟨⟨a.can (d := .spoil i n) ⟨c.1, c.2.1, c.2.2.1⟩, trivial⟩, (Alike.after a (.throw i n ws w)).trans ⟨?_, rfl⟩, ?_⟩
    · show List.map _ (after1 P B u (.throw i n ws w)).ls = List.map _ (after1 P B u (.spoil i n)).ls
      simp only [after1, thrL, List.map_map, Function.comp_def]
    · show alStep p u.ls mine (.throw i n ws w) = _
      rw [alStep_alike a]
  | sell i j part => exact ⟨trivial, (Alike.sell s i j part).trans a, rfl⟩
  | bring i j n => exact ⟨⟨a.can c, trivial⟩, a.after _, (alStep_alike a p mine (.bring i j n)).symm⟩
  | pool i j => exact ⟨⟨a.can c, trivial⟩, a.after _, (alStep_alike a p mine (.pool i j)).symm⟩
  | swap i g k n => exact ⟨⟨a.can c, trivial⟩, a.after _, (alStep_alike a p mine (.swap i g k n)).symm⟩
  | trade no i g k n => exact ⟨⟨a.can c, trivial⟩, a.after _, (alStep_alike a p mine (.trade no i g k n)).symm⟩
  | spoil i n => exact ⟨⟨a.can c, trivial⟩, a.after _, (alStep_alike a p mine (.spoil i n)).symm⟩
theorem plain_run {P K : Nat} {B : Int} {p : Nat} : ∀ (ds : List Dd) {s u : Sta} (mine : List Rat), Alike s u → Cans P K B s ds →
    Cans P K B u (plain ds) ∧ Alike (runS P B s ds) (runS P B u (plain ds)) ∧ alRun P B p u mine (plain ds) = alRun P B p s mine ds
  | [], s, u, mine, a, c => ⟨trivial, a, rfl⟩
  | d :: ds, s, u, mine, a, c => by
    obtain ⟨c1, a1, e1⟩ := plain_step (B := B) (p := p) mine a c.1
    obtain ⟨c2, a2, e2⟩ := plain_run ds (alStep p s.ls mine d) a1 c.2
    have ep : plain (d :: ds) = plD d ++ plain ds := by simp [plain]
    rw [ep, cans_app, runS_app, alRun_app, e1]
    exact ⟨⟨c1, c2⟩, a2, e2⟩
theorem kf_cons (l : Ld) (x : Rat) (zs : List (Ld × Rat)) (kd : Nat) : kf ((l, x) :: zs) kd = (if l.k = kd then x else 0) + kf zs kd := by
  simp only [kf, List.filter_cons]
  by_cases h : l.k = kd
  · simp [h]
  · have h2 : ¬ (l.k : Int) = kd := by omega
    simp [h, h2, Rat.zero_add]
theorem stock1_cons (l : Ld) (ls : List Ld) (kd : Nat) : stock1 (l :: ls) kd = (if l.k = kd then l.n else 0) + stock1 ls kd := by
  simp only [stock1, List.filter_cons]
  by_cases h : l.k = kd
  · simp [h]
  · have h2 : ¬ (l.k : Int) = kd := by omega
    simp [h, h2]
theorem theirs1_cons (l : Ld) (ls : List Ld) (p kd : Nat) : theirs1 (l :: ls) p kd = (if l.k = kd then (l.n : Rat) * l.sh.getD p 0 else 0) + theirs1 ls p kd := by
  simp only [theirs1, List.filter_cons]
  by_cases h : l.k = kd
  · simp [h]
  · have h2 : ¬ (l.k : Int) = kd := by omega
    simp [h, h2, Rat.zero_add]
theorem kf_alike (kd : Nat) : ∀ (ls us : List Ld) (mine : List Rat), ls.map (fun l => (l.k, l.n)) = us.map (fun l => (l.k, l.n)) → kf (ls.zip mine) kd = kf (us.zip mine) kd
  | [], [], mine, h => rfl
  | [], u :: us, mine, h => by simp at h
  | l :: ls, [], mine, h => by simp at h
  | l :: ls, u :: us, [], h => rfl
  | l :: ls, u :: us, x :: mine, h => by
    simp only [List.map_cons, List.cons.injEq, Prod.mk.injEq] at h
    rw [List.zip_cons_cons, List.zip_cons_cons, kf_cons, kf_cons, h.1.1, kf_alike kd ls us mine h.2]
def rs (P : Nat) (f : Nat → Rat) : Rat := ((List.range P).map f).sum
theorem rs_add (P : Nat) (f g : Nat → Rat) : rs P (fun p => f p + g p) = rs P f + rs P g := sum_range_add P f g
theorem rs_mul (c : Rat) (f : Nat → Rat) : ∀ P : Nat, rs P (fun p => c * f p) = c * rs P f
  | 0 => by simp [rs, Rat.mul_zero]
  | P + 1 => by
    have ih := rs_mul c f P
    simp only [rs, List.range_succ, List.map_append, List.map_cons, List.map_nil, sum_snoc] at *
    rw [ih]; grind
theorem rs_zero (P : Nat) : rs P (fun _ => 0) = 0 := by
  have := rs_mul 0 (fun _ => 0) P
  simpa [Rat.zero_mul] using this
theorem rs_if (c : Prop) [Decidable c] (P : Nat) (f : Nat → Rat) : rs P (fun p => if c then f p else 0) = if c then rs P f else 0 := by
  by_cases h : c
  · simp [h]
  · simp [h, rs_zero]
theorem kf_sum {P : Nat} (kd : Nat) : ∀ (ls : List Ld) (f : Nat → List Rat), (∀ p, (f p).length = ls.length) → (∀ i, i < ls.length → rs P (fun p => (f p).getD i 0) = (((at_ ls i).n : Int) : Rat)) →
    rs P (fun p => kf (ls.zip (f p)) kd) = ((stock1 ls kd : Int) : Rat)
  | [], f, hl, hs => by
    have : ∀ p, kf (([] : List Ld).zip (f p)) kd = 0 := fun p => rfl
    simp only [this, rs_zero]; rfl
  | l :: ls, f, hl, hs => by
    have e : ∀ p, kf ((l :: ls).zip (f p)) kd = (if l.k = kd then (f p).getD 0 0 else 0) + kf (ls.zip (f p).tail) kd := fun p => by
      have := hl p
      cases h : f p with
      | nil => rw [h] at this; simp at this
      | cons x xs => rw [List.zip_cons_cons, kf_cons]; rfl
    simp only [e]
    rw [rs_add, rs_if, kf_sum kd ls (fun p => (f p).tail) (fun p => by simp [hl p]) (fun i hi => by
      have := hs (i + 1) (by simp; omega)
      have e1 : at_ (l :: ls) (i + 1) = at_ ls i := by simp [at_]
      rw [e1] at this
      rw [← this]
      congr 1
      funext p
      simp [List.getElem?_tail]), hs 0 (by simp), stock1_cons, Rat.intCast_add]
    congr 1
    by_cases h : l.k = kd
    · simp [h, at_]
    · simp [h]
theorem alStep_len {P : Nat} {B : Int} {s : Sta} {mine : List Rat} (p : Nat) (d : Dd) (hl : mine.length = s.ls.length) : (alStep p s.ls mine d).length = (after1 P B s d).ls.length := by
  cases d <;> simp [alStep, alGive, after1, lessL, thrL, solL, hl]
structure Sums (P : Nat) (s : Sta) (f : Nat → List Rat) : Prop where
  len : ∀ p, (f p).length = s.ls.length
  sum : ∀ i, i < s.ls.length → rs P (fun p => (f p).getD i 0) = (((at_ s.ls i).n : Int) : Rat)
section
variable {P K : Nat} {B : Int} {s : Sta} {f : Nat → List Rat} (S : Sums P s f)
include S
theorem sums_part {a : Nat} (ha : a < s.ls.length) (hn : 1 ≤ (at_ s.ls a).n) : rs P (fun p => alPart s.ls (f p) a) = 1 := by
  obtain ⟨N, eN⟩ := Int.eq_ofNat_of_zero_le (a := (at_ s.ls a).n) (by omega)
  have e : ∀ p, alPart s.ls (f p) a = mkRat 1 N * (f p).getD a 0 := fun p => by
    rw [alPart, show (at_ s.ls a).n.toNat = N by omega]; grind
  simp only [e]
  rw [rs_mul, S.sum a ha, eN, rcast]
  have := mkRat_inv N (by omega)
  grind
theorem sums_give {a : Nat} {g : Int} (ha : a < s.ls.length) (hn : 1 ≤ (at_ s.ls a).n) {i : Nat} (hi : i < s.ls.length) : rs P (fun p => (alGive s.ls (f p) a g).getD i 0) = (((at_ (lessL s.ls a (at_ s.ls a) g) i).n : Int) : Rat) := by
  by_cases e : a = i
  · subst e
    have h1 : ∀ p, (alGive s.ls (f p) a g).getD a 0 = (f p).getD a 0 + (-(g : Rat)) * alPart s.ls (f p) a := fun p => by
      rw [alGive, getD_set_eq (by rw [S.len p]; exact ha)]; grind
    simp only [h1]
    rw [rs_add, rs_mul, S.sum a ha, sums_part S ha hn, at_less_eq ha, Rat.intCast_sub]
    grind
  · have h1 : ∀ p, (alGive s.ls (f p) a g).getD i 0 = (f p).getD i 0 := fun p => by rw [alGive, getD_set_ne e]
    simp only [h1]
    rw [at_less_ne e, S.sum i hi]
theorem sums_app {ls : List Ld} {m : Nat → List Rat} (l : Ld) (x : Nat → Rat) (hm : ∀ p, (m p).length = ls.length) (hi : ∀ i, i < ls.length → rs P (fun p => (m p).getD i 0) = (((at_ ls i).n : Int) : Rat)) (hx : rs P x = ((l.n : Int) : Rat)) {i : Nat} (h : i < (ls ++ [l]).length) :
    rs P (fun p => (m p ++ [x p]).getD i 0) = (((at_ (ls ++ [l]) i).n : Int) : Rat) := by
  simp only [List.length_append, List.length_singleton] at h
  by_cases e : i < ls.length
  · have h1 : ∀ p, (m p ++ [x p]).getD i 0 = (m p).getD i 0 := fun p => getD_app_lt (by rw [hm p]; exact e)
    simp only [h1]
    rw [at_app_lt e, hi i e]
  · have : i = ls.length := by omega
    subst this
    have h1 : ∀ p, (m p ++ [x p]).getD ls.length 0 = x p := fun p => by rw [← hm p]; exact getD_app_at
    simp only [h1]
    rw [at_app_at, hx]
theorem sums_step {d : Dd} (c : Can P K s d) : Sums P (after1 P B s d) (fun p => alStep p s.ls (f p) d) := by
  refine ⟨fun p => alStep_len p d (S.len p), fun i hi => ?_⟩
  have gl : ∀ a g p, (alGive s.ls (f p) a g).length = (lessL s.ls a (at_ s.ls a) g).length := fun a g p => by simp [alGive, lessL, S.len p]
  have sw : ∀ (a : Nat) (g : Int) (k : Nat) (n : Int), a < s.ls.length → 1 ≤ (at_ s.ls a).n → ∀ i, i < (lessL s.ls a (at_ s.ls a) g ++ [(⟨k, n, (at_ s.ls a).sh⟩ : Ld)]).length → rs P (fun p => (alGive s.ls (f p) a g ++ [(n : Rat) * alPart s.ls (f p) a]).getD i 0) = (((at_ (lessL s.ls a (at_ s.ls a) g ++ [(⟨k, n, (at_ s.ls a).sh⟩ : Ld)]) i).n : Int) : Rat) := by
    intro a g k n ha hn i hi
    refine sums_app S _ (fun p => (n : Rat) * alPart s.ls (f p) a) (gl a g) (fun i h => sums_give S ha hn (by rw [len_less] at h; exact h)) ?_ hi
    rw [rs_mul, sums_part S ha hn]
    grind
  cases d with
  | bring q k n =>
    have e : ∀ p, alStep p s.ls (f p) (.bring q k n) = f p ++ [if q = p then (n : Rat) else 0] := fun p => rfl
    simp only [e]
    refine sums_app S (⟨k, n, brS P q⟩ : Ld) (fun p => if q = p then (n : Rat) else 0) S.len S.sum ?_ hi
    have e2 : ∀ p, (if q = p then (n : Rat) else 0) = (n : Rat) * (if p = q then (1 : Rat) else 0) := fun p => by
      by_cases h : q = p
      · simp [h, Rat.mul_one]
      · have h2 : ¬ p = q := fun e => h e.symm
        simp [h, h2, Rat.mul_zero]
    simp only [e2]
    have := sum_ind q P
    rw [if_pos c.1] at this
    rw [rs_mul, rs, this, Rat.mul_one]
  | pool a b =>
    obtain ⟨hab, ha, hb, n1, n2, hk⟩ := c
    have e : ∀ p, alStep p s.ls (f p) (.pool a b) = ((f p).set a 0).set b 0 ++ [(f p).getD a 0 + (f p).getD b 0] := fun p => by
      simp only [alStep]
      rw [List.set_append_left _ _ (by rw [S.len p]; exact ha), List.set_append_left _ _ (by rw [List.length_set, S.len p]; exact hb)]
    simp only [e]
    refine sums_app S _ (fun p => (f p).getD a 0 + (f p).getD b 0) (fun p => by simp [lessL, S.len p]) (fun i hi => ?_) ?_ hi
    · rw [len_less, len_less] at hi
      by_cases e1 : b = i
      · subst e1
        have h1 : ∀ p, (((f p).set a 0).set b 0).getD b 0 = 0 := fun p => getD_set_eq (by simp [S.len p]; exact hb)
        simp only [h1, rs_zero]
        rw [at_less_eq (by rw [len_less]; exact hb)]
        simp only [Int.sub_self]
        rfl
      · rw [at_less_ne e1]
        by_cases e2 : a = i
        · subst e2
          have h1 : ∀ p, (((f p).set a 0).set b 0).getD a 0 = 0 := fun p => by rw [getD_set_ne e1, getD_set_eq (by rw [S.len p]; exact ha)]
          simp only [h1, rs_zero]
          rw [at_less_eq ha]
          simp only [Int.sub_self]
          rfl
        · have h1 : ∀ p, (((f p).set a 0).set b 0).getD i 0 = (f p).getD i 0 := fun p => by rw [getD_set_ne e1, getD_set_ne e2]
          simp only [h1]
          rw [at_less_ne e2, S.sum i hi]
    · rw [rs_add, S.sum a ha, S.sum b hb, Rat.intCast_add]
  | swap a g k n => exact sw a g k n c.1 (by have := c.2.1; have := c.2.2.1; omega) i hi
  | trade no a g k n => exact sw a g k n c.2.1 (by have := c.2.2.1; have := c.2.2.2.1; omega) i hi
  | spoil a m => exact sums_give S c.1 (by have := c.2.1; have := c.2.2; omega) (by simpa [after1, lessL] using hi)
  | throw a m ws w =>
    have := sums_give S (g := m) c.1 (by have := c.2.1; have := c.2.2.1; omega) (i := i) (by simpa [after1, lessL, thrL] using hi)
    have en : ∀ (pt : Rat) (os : List Rat) (ls : List Ld), (at_ (thrL pt os ls) i).n = (at_ ls i).n := fun pt os ls => by
      simp only [at_, thrL, List.getD_eq_getElem?_getD, List.getElem?_map]
      cases ls[i]? <;> rfl
    show _ = (((at_ (thrL _ _ _) i).n : Int) : Rat)
    rw [en]
    exact this
  | sell p q part =>
    have := S.sum i (by simpa [after1, solL] using hi)
    have en : (at_ (solL p q part s.ls) i).n = (at_ s.ls i).n := by
      simp only [at_, solL, List.getD_eq_getElem?_getD, List.getElem?_map]
      cases s.ls[i]? <;> rfl
    show _ = (((at_ (solL p q part s.ls) i).n : Int) : Rat)
    rw [en]
    exact this
end
theorem sums_run {P K : Nat} {B : Int} : ∀ (ds : List Dd) {s : Sta} {f : Nat → List Rat}, Sums P s f → Cans P K B s ds → Sums P (runS P B s ds) (fun p => alRun P B p s (f p) ds)
  | [], s, f, S, _ => S
  | d :: ds, s, f, S, c => sums_run ds (sums_step (B := B) S c.1) c.2
/-! a book without throws and sales: alone is what each has -/
def tl (p : Nat) (l : Ld) : Rat := (l.n : Rat) * l.sh.getD p 0
theorem theirs_kf (p kd : Nat) : ∀ (ls : List Ld), theirs1 ls p kd = kf (ls.zip (ls.map (tl p))) kd
  | [] => rfl
  | l :: ls => by rw [theirs1_cons, List.map_cons, List.zip_cons_cons, kf_cons, theirs_kf p kd ls]; rfl
def Dd.pl : Dd → Bool
  | .throw .. => false
  | .sell .. => false
  | _ => true
theorem pl_plain (ds : List Dd) : ∀ d ∈ plain ds, d.pl = true := fun d h => by
  obtain ⟨e, _, he⟩ := List.mem_flatMap.1 h
  cases e <;> simp [plD] at he <;> subst he <;> rfl
theorem at_map {f : Ld → Rat} {ls : List Ld} {a : Nat} (ha : a < ls.length) : (ls.map f).getD a 0 = f (at_ ls a) := by
  simp [at_, ha]
theorem tl_part {p : Nat} {ls : List Ld} {a : Nat} (ha : a < ls.length) (hn : 1 ≤ (at_ ls a).n) : alPart ls (ls.map (tl p)) a = (at_ ls a).sh.getD p 0 := by
  obtain ⟨N, eN⟩ := Int.eq_ofNat_of_zero_le (a := (at_ ls a).n) (by omega)
  have := mkRat_inv N (by omega)
  rw [alPart, at_map ha, tl, show (at_ ls a).n.toNat = N by omega, eN, rcast]
  grind
theorem tl_give {p : Nat} {ls : List Ld} {a : Nat} (g : Int) (ha : a < ls.length) (hn : 1 ≤ (at_ ls a).n) : alGive ls (ls.map (tl p)) a g = (lessL ls a (at_ ls a) g).map (tl p) := by
  rw [alGive, lessL, List.map_set, tl_part ha hn, at_map ha]
  congr 1
  simp only [tl, Rat.intCast_sub]
  grind
theorem tl_step {P K t M : Nat} {B : Int} {s : Sta} {p : Nat} (g : Good P K t M s) {d : Dd} (c : Can P K s d) (hd : d.pl = true) (hp : p < P) : alStep p s.ls (s.ls.map (tl p)) d = (after1 P B s d).ls.map (tl p) := by
  have sw : ∀ (a : Nat) (gv : Int) (k : Nat) (n : Int), a < s.ls.length → 1 ≤ (at_ s.ls a).n → alGive s.ls (s.ls.map (tl p)) a gv ++ [(n : Rat) * alPart s.ls (s.ls.map (tl p)) a] = (lessL s.ls a (at_ s.ls a) gv ++ [(⟨k, n, (at_ s.ls a).sh⟩ : Ld)]).map (tl p) := by
    intro a gv k n ha hn
    rw [tl_give gv ha hn, tl_part ha hn, List.map_append]
    rfl
  cases d with
  | bring q k n =>
    simp only [alStep, after1, List.map_append, List.map_cons, List.map_nil]
    congr 2
    simp only [tl, brS]
    have e : ((List.range P).map fun i => if i = q then (1 : Rat) else 0).getD p 0 = if p = q then 1 else 0 := by simp [hp]
    rw [e]
    by_cases h : q = p
    · simp [h, Rat.mul_one]
    · have h2 : ¬ p = q := fun e => h e.symm
      simp [h, h2, Rat.mul_zero]
  | pool a b =>
    obtain ⟨hab, ha, hb, n1, n2, hk⟩ := c
    obtain ⟨N, eN⟩ := Int.eq_ofNat_of_zero_le (a := (at_ s.ls a).n) (by omega)
    obtain ⟨N2, eN2⟩ := Int.eq_ofNat_of_zero_le (a := (at_ s.ls b).n) (by omega)
    have la := (g.sh _ (at_mem ha)).1
    have lb := (g.sh _ (at_mem hb)).1
    simp only [alStep, after1]
    rw [List.set_append_left _ _ (by simpa using ha), List.set_append_left _ _ (by simpa using hb), List.map_append, at_map ha, at_map hb]
    have hz : ∀ (ls : List Ld) (i : Nat) (l : Ld), (lessL ls i l l.n).map (tl p) = (ls.map (tl p)).set i 0 := fun ls i l => by
      rw [lessL, List.map_set]
      congr 1
      simp only [tl, Int.sub_self]
      exact Rat.zero_mul _
    rw [hz, hz]
    congr 1
    simp only [List.map_cons, List.map_nil, tl]
    congr 1
    have e : (plS (at_ s.ls a).n (at_ s.ls b).n (at_ s.ls a).sh (at_ s.ls b).sh).getD p 0 = (((at_ s.ls a).n : Rat) * (at_ s.ls a).sh.getD p 0 + ((at_ s.ls b).n : Rat) * (at_ s.ls b).sh.getD p 0) * mkRat 1 ((at_ s.ls a).n + (at_ s.ls b).n).toNat := by
      have h1 : p < (at_ s.ls a).sh.length := by omega
      have h2 : p < (at_ s.ls b).sh.length := by omega
      have h3 : p < ((at_ s.ls a).sh.zip (at_ s.ls b).sh).length := by simp; omega
      simp [plS, List.getElem?_eq_getElem h3, h1, h2]
    rw [e, eN, eN2]
    have := mkRat_inv (N + N2) (by omega)
    rw [show ((N : Int) + (N2 : Int)).toNat = N + N2 by omega, Rat.intCast_add, rcast, rcast]
    rw [Rat.natCast_add] at this
    grind
  | swap a gv k n => exact sw a gv k n c.1 (by have := c.2.1; have := c.2.2.1; omega)
  | trade no a gv k n => exact sw a gv k n c.2.1 (by have := c.2.2.1; have := c.2.2.2.1; omega)
  | spoil a m => exact tl_give m c.1 (by have := c.2.1; have := c.2.2; omega)
  | throw a m ws w => simp [Dd.pl] at hd
  | sell q r part => simp [Dd.pl] at hd
theorem tl_run {P K : Nat} {B : Int} {p : Nat} (hp : p < P) (hB : 1 ≤ B ∧ B ≤ 20) : ∀ (ds : List Dd) {s : Sta} {t M : Nat}, Good P K t M s → t + ds.length ≤ 17 → Cans P K B s ds → (∀ d ∈ ds, d.pl = true) → alRun P B p s (s.ls.map (tl p)) ds = (runS P B s ds).ls.map (tl p)
  | [], s, t, M, g, _, _, _ => rfl
  | d :: ds, s, t, M, g, hl, c, hd => by
    simp only [List.length_cons] at hl
    obtain ⟨M1, g1⟩ := step_good g (by omega) hB c.1
    rw [alRun, tl_step (B := B) g c.1 (hd d (by simp)) hp]
    exact tl_run hp hB ds g1 (by omega) c.2 (fun e he => hd e (by simp [he]))
/-! the book without throws and sales -/
def Bk.plain (b : Bk) : Bk := { b with ds := VM.plain b.ds }
theorem plain_len : ∀ ds : List Dd, (plain ds).length ≤ ds.length
  | [] => Nat.le_refl _
  | d :: ds => by
    have ep : plain (d :: ds) = plD d ++ plain ds := by simp [plain]
    have := plain_len ds
    rw [ep]
    cases d <;> simp [plD] <;> omega
theorem alone_0 (b : Bk) (p : Nat) : alone b p 0 = b.ls.map (tl p) := rfl
theorem alone_end (b : Bk) (p : Nat) : alone b p b.ds.length = alRun b.P b.B p b.s0 (b.ls.map (tl p)) b.ds := by
  rw [alone_run b p _ (Nat.le_refl _), List.take_length, alone_0]
section
variable {n : Nat} {b : Bk} (c : BkC n b)
include c
theorem BkC.plain : BkC n b.plain := ⟨c.toBkT.ds _, Nat.le_trans (plain_len _) c.len, (plain_run (p := 0) b.ds [] (Alike.refl b.s0) c.cans).1⟩
theorem plain_alike : Alike (b.st b.ds.length) (b.plain.st b.plain.ds.length) := by
  rw [st_len, st_len]
  exact (plain_run (p := 0) b.ds [] (Alike.refl b.s0) c.cans).2.1
theorem aloneK_plain (p : Nat) : aloneK b.plain p = aloneK b p := by
  have e : alone b.plain p b.plain.ds.length = alone b p b.ds.length := by
    rw [alone_end, alone_end]
    exact (plain_run b.ds _ (Alike.refl b.s0) c.cans).2.2
  simp only [aloneK, kinds]
  rw [e]
  refine List.map_congr_left fun kd _ => (kf_alike kd _ _ _ (plain_alike c).1).symm
theorem aloneK_out {i : Nat} (hi : i < b.ds.length) (hs : b.ds[i].isSell = true) (p : Nat) : aloneK (b.out i) p = aloneK b p := by
  have ed : b.ds = b.ds.take i ++ b.ds[i] :: b.ds.drop (i + 1) := by simp
  obtain ⟨q, r, part, es⟩ : ∃ q r part, b.ds[i] = .sell q r part := by
    cases h : b.ds[i] <;> rw [h] at hs <;> first | exact ⟨_, _, _, rfl⟩ | simp [Dd.isSell] at hs
  have al := Alike.sell (P := b.P) (B := b.B) (runS b.P b.B b.s0 (b.ds.take i)) q r part
  have e : alone (b.out i) p (b.out i).ds.length = alone b p b.ds.length := by
    rw [alone_end, alone_end]
    conv => rhs; rw [ed, es]
    show alRun b.P b.B p b.s0 _ (b.ds.take i ++ b.ds.drop (i + 1)) = _
    rw [alRun_app, alRun_app]
    exact (alRun_alike _ _ al).symm
  have a2 : Alike ((b.out i).st (b.out i).ds.length) (b.st b.ds.length) := by
    rw [st_len, st_len]
    conv => rhs; rw [ed, es]
    show Alike (runS b.P b.B b.s0 (b.ds.take i ++ b.ds.drop (i + 1))) _
    rw [runS_app, runS_app]
    exact Alike.run _ al.symm
  simp only [aloneK, kinds]
  rw [e]
  exact List.map_congr_left fun kd _ => kf_alike kd _ _ _ a2.1
theorem aloneK_sum (hn : n ≤ 17) (kd : Nat) : rs b.P (fun p => kf ((b.st b.ds.length).ls.zip (alone b p b.ds.length)) kd) = ((stock1 (b.st b.ds.length).ls kd : Int) : Rat) := by
  have o := c.ones hn 0
  obtain ⟨M, g⟩ := c.good
  have S0 : Sums b.P b.s0 (fun p => b.ls.map (tl p)) := by
    refine ⟨fun p => by simp [Bk.s0], fun i hi => ?_⟩
    have e : ∀ p, (b.ls.map (tl p)).getD i 0 = ((at_ b.ls i).n : Rat) * (at_ b.ls i).sh.getD p 0 := fun p => at_map (f := tl p) hi
    simp only [e]
    have h1 := o.ls (at_ b.ls i) (at_mem hi)
    have h2 := (g.sh (at_ b.ls i) (at_mem hi)).1
    have := sum_getD (((at_ b.ls i).n : Int) : Rat) (at_ b.ls i).sh
    rw [h2, h1, Rat.mul_one] at this
    exact this
  have S := sums_run (K := b.K) (B := b.B) b.ds S0 c.cans
  rw [← st_len] at S
  simp only [alone_end]
  exact kf_sum kd _ _ S.len S.sum
theorem theirs_plain (hn : n ≤ 17) {p : Nat} (hp : p < b.P) : theirs b.plain.K (b.plain.st b.plain.ds.length).ls p = aloneK b p := by
  obtain ⟨M, g⟩ := c.good
  have cp := c.plain
  have e : alone b.plain p b.plain.ds.length = (b.plain.st b.plain.ds.length).ls.map (tl p) := by
    rw [alone_end, st_len]
    exact tl_run hp c.B _ g (by have := cp.len; omega) cp.cans (pl_plain b.ds)
  rw [← aloneK_plain c p]
  simp only [aloneK, kinds, theirs]
  rw [e]
  exact List.map_congr_left fun kd _ => theirs_kf p kd _
end

theorem al_step2 {P K t Mg : Nat} {B : Int} {s : Sta} (M : Nat) (g : Good P K t Mg s) (ht : t ≤ 16) {d : Dd} (c : Can P K s d) : ∃ M', M' ≤ M * 2 ^ 140 ∧ ∀ p mine, Al M s mine → Al M' (after1 P B s d) (alStep p s.ls mine d) := by
  have nb : ∀ a, a < s.ls.length → (at_ s.ls a).n ≤ 2 ^ 140 := fun a ha => by
    have := (tot_nn g.nn).2 _ (at_mem ha)
    have gt := g.tot
    have tb : ((4 : Int) + t) * 2 ^ 131 ≤ 20 * 2 ^ 131 := Int.mul_le_mul_of_nonneg_right (by omega) (by decide)
    omega
  have big : ∀ {N : Nat} {a : Nat}, a < s.ls.length → ((at_ s.ls a).n : Int) = N → M * N ≤ M * 2 ^ 140 := fun {N a} ha e => Nat.mul_le_mul_left _ (by have := nb a ha; omega)
  have M1 : M ≤ M * 2 ^ 140 := Nat.le_mul_of_pos_right _ (Nat.two_pow_pos _)
  have icast : ∀ n : Int, 0 ≤ n → (0 : Rat) ≤ (n : Rat) := fun n h => by exact_mod_cast h
  have sw : ∀ (a : Nat) (gv : Int) (kd : Nat) (n : Int) (nums : List Int), a < s.ls.length → 1 ≤ gv → gv ≤ (at_ s.ls a).n → 1 ≤ n → ∃ M', M' ≤ M * 2 ^ 140 ∧ ∀ (_ : Nat) mine, Al M s mine → Al M' ⟨lessL s.ls a (at_ s.ls a) gv ++ [⟨kd, n, (at_ s.ls a).sh⟩], s.hs, nums⟩ (alGive s.ls mine a gv ++ [(n : Rat) * alPart s.ls mine a]) := by
    intro a gv kd n nums ha g1 g2 n1
    refine ⟨M * (at_ s.ls a).n.toNat, big ha (by omega), fun p mine al => ?_⟩
    obtain ⟨N, N0, eN, al2, q1, q2, q3⟩ := al_give al g ha g1 g2
    rw [show (at_ s.ls a).n.toNat = N by omega]
    refine al2.more al2.M0 (Nat.dvd_refl _) ?_ (Rat.mul_nonneg (icast n (by omega)) q2) ?_ _ _
    · have := den_mul_dvd (n : Rat) (alPart s.ls mine a)
      rw [Rat.den_intCast, Nat.one_mul] at this
      exact Nat.dvd_trans this q1
    · have := Rat.mul_le_mul_of_nonneg_left q3 (icast n (by omega))
      show (n : Rat) * alPart s.ls mine a ≤ (n : Rat)
      grind
  cases d with
  | bring q kd n =>
    refine ⟨M, M1, fun p mine al => al.more al.M0 (Nat.dvd_refl _) ?_ ?_ ?_ _ _⟩
    · split
      · rw [Rat.den_intCast]; exact Nat.one_dvd _
      · exact Nat.one_dvd _
    · split
      · exact icast n (by have := c.2.2.1; omega)
      · decide
    · show (if q = p then (n : Rat) else 0) ≤ (n : Rat)
      split
      · grind
      · exact icast n (by have := c.2.2.1; omega)
  | pool a b =>
    obtain ⟨hab, ha, hb, n1, n2, hk⟩ := c
    refine ⟨M, M1, fun p mine al => ?_⟩
    obtain ⟨a1, a2, a3⟩ := al.bd a ha
    obtain ⟨b1, b2, b3⟩ := al.bd b hb
    have len := al.len
    have key : ∀ i, i < s.ls.length → (((mine ++ [mine.getD a 0 + mine.getD b 0]).set a 0).set b 0).getD i 0 = if i = b then 0 else if i = a then 0 else mine.getD i 0 := fun i hi => by
      by_cases e1 : i = b
      · subst e1
        rw [getD_set_eq (by simp; omega), if_pos rfl]
      · rw [getD_set_ne (Ne.symm e1), if_neg e1]
        by_cases e2 : i = a
        · subst e2
          rw [getD_set_eq (by simp; omega), if_pos rfl]
        · rw [getD_set_ne (Ne.symm e2), if_neg e2, getD_app_lt (by omega)]
    refine ⟨by simp [alStep, after1, lessL, len], fun i hi => ?_, al.M0⟩
    have hi : i < ((lessL (lessL s.ls a (at_ s.ls a) (at_ s.ls a).n) b (at_ s.ls b) (at_ s.ls b).n) ++ [(⟨(at_ s.ls a).k, (at_ s.ls a).n + (at_ s.ls b).n, plS (at_ s.ls a).n (at_ s.ls b).n (at_ s.ls a).sh (at_ s.ls b).sh⟩ : Ld)]).length := hi
    show _ ∧ _ ∧ _ ≤ (((at_ ((lessL (lessL s.ls a (at_ s.ls a) (at_ s.ls a).n) b (at_ s.ls b) (at_ s.ls b).n) ++ [(⟨(at_ s.ls a).k, (at_ s.ls a).n + (at_ s.ls b).n, plS (at_ s.ls a).n (at_ s.ls b).n (at_ s.ls a).sh (at_ s.ls b).sh⟩ : Ld)]) i).n : Int) : Rat)
    simp only [List.length_append, len_less, List.length_singleton] at hi
    by_cases e : i < s.ls.length
    · rw [at_app_lt (by rw [len_less, len_less]; exact e)]
      simp only [alStep]
      rw [key i e]
      by_cases e1 : i = b
      · subst e1
        rw [if_pos rfl, at_less_eq (by rw [len_less]; exact hb)]
        refine ⟨Nat.one_dvd _, by decide, ?_⟩
        show (0 : Rat) ≤ (((at_ s.ls i).n - (at_ s.ls i).n : Int) : Rat)
        rw [Int.sub_self]; decide
      · rw [if_neg e1, at_less_ne (Ne.symm e1)]
        by_cases e2 : i = a
        · subst e2
          rw [if_pos rfl, at_less_eq ha]
          refine ⟨Nat.one_dvd _, by decide, ?_⟩
          show (0 : Rat) ≤ (((at_ s.ls i).n - (at_ s.ls i).n : Int) : Rat)
          rw [Int.sub_self]; decide
        · rw [if_neg e2, at_less_ne (Ne.symm e2)]
          exact al.bd i e
    · have ei : i = s.ls.length := by omega
      subst ei
      have eq : (lessL (lessL s.ls a (at_ s.ls a) (at_ s.ls a).n) b (at_ s.ls b) (at_ s.ls b).n).length = s.ls.length := by rw [len_less, len_less]
      simp only [alStep]
      rw [getD_set_ne (by omega), getD_set_ne (by omega)]
      have e1 := at_app_at (xs := lessL (lessL s.ls a (at_ s.ls a) (at_ s.ls a).n) b (at_ s.ls b) (at_ s.ls b).n) (x := ⟨(at_ s.ls a).k, (at_ s.ls a).n + (at_ s.ls b).n, plS (at_ s.ls a).n (at_ s.ls b).n (at_ s.ls a).sh (at_ s.ls b).sh⟩)
      rw [eq] at e1
      have e2 := getD_app_at (xs := mine) (x := mine.getD a 0 + mine.getD b 0)
      rw [len] at e2
      rw [e1, e2]
      refine ⟨den_add_dvd al.M0 a1 b1, by grind, ?_⟩
      show _ ≤ (((at_ s.ls a).n + (at_ s.ls b).n : Int) : Rat)
      rw [Rat.intCast_add]
      grind
  | swap a gv kd n => exact sw a gv kd n _ c.1 c.2.1 c.2.2.1 c.2.2.2.2.2.1
  | trade no a gv kd n => exact sw a gv kd n _ c.2.1 c.2.2.1 c.2.2.2.1 c.2.2.2.2.2.2.1
  | spoil a m =>
    refine ⟨M * (at_ s.ls a).n.toNat, big c.1 (by have := c.2.1; have := c.2.2; omega), fun p mine al => ?_⟩
    obtain ⟨N, N0, eN, al2, _⟩ := al_give al g c.1 c.2.1 c.2.2
    rw [show (at_ s.ls a).n.toNat = N by omega]
    exact al2
  | throw a m ws w =>
    refine ⟨M * (at_ s.ls a).n.toNat, big c.1 (by have := c.2.1; have := c.2.2.1; omega), fun p mine al => ?_⟩
    obtain ⟨N, N0, eN, al2, _⟩ := al_give al g c.1 c.2.1 c.2.2.1
    rw [show (at_ s.ls a).n.toNat = N by omega]
    have ak : Alike (⟨lessL s.ls a (at_ s.ls a) m, s.hs, s.nums⟩ : Sta) (after1 P B s (.throw a m ws w)) := ⟨by simp [after1, thrL, List.map_map, Function.comp_def], rfl⟩
    exact ⟨by rw [← ak.len]; exact al2.len, fun i hi => by
      rw [← ak.len] at hi
      rw [← (ak.at i).2]; exact al2.bd i hi, al2.M0⟩
  | sell p2 q part =>
    refine ⟨M, M1, fun p' mine al => ?_⟩
    have ak := (Alike.sell (P := P) (B := B) s p2 q part).symm
    exact ⟨by rw [← ak.len]; exact al.len, fun i hi => by
      rw [← ak.len] at hi
      rw [← (ak.at i).2]; exact al.bd i hi, al.M0⟩
theorem BkC.alones {n : Nat} {b : Bk} (c : BkC n b) (hn : n ≤ 17) : ∀ m, m ≤ b.ds.length → ∃ M, 0 < M ∧ M < 2 ^ (60 + 140 * m) ∧ ∀ p, p < b.P → Al M (b.st m) (VM.alone b p m)
  | 0, _ => by
    obtain ⟨M, g⟩ := c.goodAt hn 0
    rw [Nat.zero_min] at g
    refine ⟨M, g.M0, g.M1, fun p hp => ⟨by simp [VM.alone, Bk.st, runS, Bk.s0], fun i hi => ?_, g.M0⟩⟩
    have e0 : (b.st 0).ls = b.ls := rfl
    rw [e0] at hi ⊢
    have hl : at_ b.ls i ∈ b.ls := at_mem hi
    have gs := g.sh _ (e0 ▸ hl)
    have sq := gs.2 _ (getD_mem (p := p) (by rw [gs.1]; exact hp))
    have nn := g.nn _ (e0 ▸ hl)
    have em : (VM.alone b p 0).getD i 0 = (((at_ b.ls i).n : Int) : Rat) * (at_ b.ls i).sh.getD p 0 := by
      simp [VM.alone, hi, at_]
    rw [em]
    have nn' : (0 : Rat) ≤ (((at_ b.ls i).n : Int) : Rat) := by exact_mod_cast nn
    refine ⟨?_, Rat.mul_nonneg nn' sq.2.1, ?_⟩
    · have := den_mul_dvd (((at_ b.ls i).n : Int) : Rat) ((at_ b.ls i).sh.getD p 0)
      rw [Rat.den_intCast, Nat.one_mul] at this
      exact Nat.dvd_trans this sq.1
    · have h1 : (at_ b.ls i).sh.getD p 0 ≤ 1 := by
        have h2 := sq.2.2
        have e : ((2 ^ 0 : Nat) : Rat) = 1 := by decide +kernel
        rw [e] at h2
        exact h2
      have := Rat.mul_le_mul_of_nonneg_left h1 nn'
      grind
  | m + 1, hm => by
    obtain ⟨M, M0, hM, al⟩ := BkC.alones c hn m (by omega)
    obtain ⟨Mg, g⟩ := c.goodAt hn m
    have cl := c.len
    obtain ⟨cd, es⟩ := c.canAt (m := m) (by omega)
    obtain ⟨M', h1, al2⟩ := al_step2 (B := b.B) M g (by omega) cd
    have hP := c.P
    refine ⟨M', (al2 0 _ (al 0 (by omega))).M0, ?_, fun p hp => ?_⟩
    · refine Nat.lt_of_le_of_lt h1 ?_
      have := Nat.mul_lt_mul_of_pos_right hM (Nat.two_pow_pos 140)
      rw [← Nat.pow_add] at this
      exact Nat.lt_of_lt_of_le this (Nat.pow_le_pow_right (by decide) (by omega))
    · rw [es]
      have : VM.alone b p (m + 1) = alStep p (b.st m).ls (VM.alone b p m) b.ds[m] := by
        rw [VM.alone, List.getElem?_eq_getElem (by omega)]
      rw [this]
      exact al2 p _ (al p hp)
/-- amounts of a book of fourteen deeds at most, all with one bottom -/
theorem BkC.kfs {b : Bk} (c : BkC 14 b) : ∃ M, 0 < M ∧ M < 2 ^ 2030 ∧ ∀ p, p < b.P → ∀ kd, Bn M (21 * 2 ^ 140) (kf ((b.st b.ds.length).ls.zip (VM.alone b p b.ds.length)) kd) := by
  obtain ⟨M, M0, M1, al⟩ := c.alones (by omega) b.ds.length (Nat.le_refl _)
  obtain ⟨Mg, F⟩ := c.facts (by omega) b.ds.length
  have Fl := F.len
  have cl := c.len
  refine ⟨M, M0, Nat.lt_of_lt_of_le M1 (Nat.pow_le_pow_right (by decide) (by omega)), fun p hp kd => ?_⟩
  have := Bn.sum (c := 2 ^ 140) M0 ((((b.st b.ds.length).ls.zip (VM.alone b p b.ds.length)).filter fun z => decide ((z.1.k : Int) = kd)).map fun z => z.2) (fun x hx => by
    obtain ⟨⟨l, x⟩, hz, rfl⟩ := List.mem_map.1 hx
    have hz := (List.mem_filter.1 hz).1
    obtain ⟨j, hj⟩ := List.getElem?_of_mem hz
    rw [List.getElem?_zip_eq_some] at hj
    obtain ⟨j1, j2⟩ := hj
    have lt := (List.getElem?_eq_some_iff.1 j1).1
    have hx : (VM.alone b p b.ds.length).getD j 0 = x := by simp [j2]
    show Bn M (2 ^ 140) x
    rw [← hx]
    exact (al p hp).bn lt (by have := F.n _ (at_mem lt); omega))
  refine this.mono (Nat.dvd_refl _) (Nat.mul_le_mul_right _ ?_)
  rw [List.length_map]
  have l1 := List.length_filter_le (fun z : Ld × Rat => decide ((z.1.k : Int) = kd)) ((b.st b.ds.length).ls.zip (VM.alone b p b.ds.length))
  rw [List.length_zip] at l1
  omega
theorem BkC.thes {b : Bk} (c : BkC 14 b) : ∃ M, 0 < M ∧ M < 2 ^ 2310 ∧ ∀ p, p < b.P → ∀ kd, Bn M (21 * 2 ^ 157) (theirs1 (b.st b.ds.length).ls p kd) := by
  obtain ⟨M, g⟩ := c.goodAt (by omega) b.ds.length
  obtain ⟨Mg, F⟩ := c.facts (by omega) b.ds.length
  have Fl := F.len
  have cl := c.len
  refine ⟨M, g.M0, Nat.lt_of_lt_of_le g.M1 (Nat.pow_le_pow_right (by decide) (by omega)), fun p hp kd => ?_⟩
  have := Bn.sum (c := 2 ^ 157) g.M0 (((b.st b.ds.length).ls.filter fun l => decide ((l.k : Int) = kd)).map (fun l => (l.n : Rat) * l.sh.getD p 0)) (fun x hx => by
    obtain ⟨l, hl, rfl⟩ := List.mem_map.1 hx
    have hl := (List.mem_filter.1 hl).1
    have gs := g.sh l hl
    have a := Bn.int (n := l.n) (c := 2 ^ 140) (by have := F.n l hl; omega)
    have := a.mul ((Bn.sq (gs.2 _ (getD_mem (by rw [gs.1]; exact hp)))).mono (Nat.dvd_refl _) (show 2 ^ (min b.ds.length b.ds.length) ≤ 2 ^ 17 from Nat.pow_le_pow_right (by decide) (by omega)))
    rwa [Nat.one_mul, ← Nat.pow_add] at this)
  refine this.mono (Nat.dvd_refl _) (Nat.mul_le_mul_right _ ?_)
  rw [List.length_map]
  have l1 := List.length_filter_le (fun l : Ld => decide ((l.k : Int) = kd)) (b.st b.ds.length).ls
  omega
theorem BkC.difs {b : Bk} (c : BkC 14 b) : ∃ M, 0 < M ∧ M < 2 ^ 4400 ∧ (∀ p, p < b.P → ∀ kd, Bn M (2 ^ 170) (kf ((b.st b.ds.length).ls.zip (VM.alone b p b.ds.length)) kd)) ∧ ∀ p, p < b.P → ∀ kd, Bn M (2 ^ 170) (theirs1 (b.st b.ds.length).ls p kd - kf ((b.st b.ds.length).ls.zip (VM.alone b p b.ds.length)) kd) := by
  obtain ⟨M, M0, M1, h1⟩ := c.kfs
  obtain ⟨N, N0, N1, h2⟩ := c.thes
  refine ⟨M * N, Nat.mul_pos M0 N0, ?_, fun p hp kd => (h1 p hp kd).mono (Nat.dvd_mul_right ..) (by decide), fun p hp kd => ?_⟩
  · have := Nat.mul_lt_mul'' M1 N1
    rw [← Nat.pow_add] at this
    exact Nat.lt_trans this (Nat.pow_lt_pow_right (by decide) (by decide))
  · exact (Bn.sub (Nat.mul_pos M0 N0) ((h2 p hp kd).mono (Nat.dvd_mul_left ..) (Nat.le_refl _)) ((h1 p hp kd).mono (Nat.dvd_mul_right ..) (Nat.le_refl _))).mono (Nat.dvd_refl _) (by decide)
/-! rows added up place by place -/
theorem _law_sums_ok (k P K M c : Nat) (X : Nat → Nat → Rat) (h : Hv) (q : Nat) (hq : h[q]? = some (Ob.lst ((List.range P).map fun p => shD ((List.range K).map (X p))))) (hP : 1 ≤ P ∧ P ≤ 900) (hK : K ≤ 900) (h0 : 0 < M) (h1 : M < 2 ^ 4400) (hc : c ≤ 2 ^ 170) (hb : ∀ p, p < P → ∀ i, i < K → Bn M c (X p i)) :
    callK T (k + 5) "_law_sums" [.ref q] h = .ok (.ref h.length) (h ++ [Ob.lst ((List.range K).map fun i => am (rs P fun p => X p i))]) := by
  have x0 : opIx (.ref q) (.int 0) h = .ok (shD ((List.range K).map (X 0))) h := by
    rw [ix_ref _ _ _ _ hq]
    obtain ⟨P', rfl⟩ : ∃ P', P = P' + 1 := ⟨P - 1, by omega⟩
    rw [List.range_succ_eq_map, List.map_cons, show (0 : Int) = ((0 : Nat) : Int) from rfl, at_nat]; rfl
  have len : bLen [shD ((List.range K).map (X 0))] h = .ok (.int K) h := by simp [shD]
  have hit : it1F (bltF bLen [(binF opIx (varF 0) (conF (.int 0)))]) (callK T (k + 4)) [some (.ref q), none, none] h = .ok ((List.range K).map fun i => .int (i : Nat), []) h := it1_ok (n := K) (by simp only [u_seq, u_asg, u_call, u_exp, u_if, u_ret, u_setS, u_par, u_nx, nxt_nx, nxt_rt, u_list, u_list0, u_var, u_con, u_bin, u_un1, u_and, u_or, u_chain, u_ite, u_blt, u_tup, u_lst, u_slc, u_opt, u_opt0, im_int, u_nm, u_tgs, u_tgs0, u_tupT, List.getElem?_cons_succ, List.getElem?_cons_zero, bind_ok, thenS_ok, thenI_ok, List.length_cons, List.length_nil, Nat.reduceAdd, Nat.reduceSub, Nat.reduceLT, Nat.reduceLeDiff, Nat.zero_le, if_true, om_some, List.set_cons_succ, List.set_cons_zero, bm_bl, Bool.not_true, Bool.not_false, Bool.false_eq_true, if_false, u_add, u_sub, u_neg, u_not, u_lt, u_le, u_gt, u_ge, u_eqI, u_neI, decide_true, decide_false, u_int, u_intb, methF, List.map_cons, List.map_nil, List.replicate, List.cons_append, List.nil_append, x0, len]) (by omega)
  obtain ⟨G, lc⟩ := lc_exta (C := callK T (k + 4)) (env := [some (.ref q), none, none]) (it := (it1F (bltF bLen [(binF opIx (varF 0) (conF (.int 0)))]))) (tg := (nmT 1)) (own := [1]) (elt := (callF "_law_sum" [(lcF (itE (varF 0)) (nmT 2) [2] (conF (.bl true)) (binF opIx (varF 2) (varF 1)))]))
    (gs := []) (h := h) (h1 := h) (List.range K) (fun i => .int (i : Nat)) (fun i => am (rs P fun p => X p i)) (fun i => [some (.ref q), some (.int (i : Nat)), none])
    (hit) (fun _ => rfl) (fun i hi acc => rfl)
    (fun i hi acc => by
      have hi := List.mem_range.1 hi
      have ixr : ∀ p h, opIx (shD ((List.range K).map (X p))) (.int (i : Nat)) h = .ok (am (X p i)) h := fun p h => by
        rw [ix_sh (by simpa using hi)]; simp [hi]
      have l2 := lc_all (C := callK T (k + 4)) (env := [some (.ref q), some (.int (i : Nat)), none]) (it := (itE (varF 0))) (tg := (nmT 2)) (own := [2]) (elt := (binF opIx (varF 2) (varF 1)))
        (gs := [(q, (List.range P).map fun p => shD ((List.range K).map (X p)))]) (h := (h ++ acc)) (h1 := (h ++ acc)) (List.range P) (fun p => shD ((List.range K).map (X p))) (fun p => am (X p i)) (fun p => [some (.ref q), some (.int (i : Nat)), some (shD ((List.range K).map (X p)))])
        (itE_s rfl (by simp only [seqOf, row_old hq])) (fun a2 => g_ref (row_old hq) _) (fun p hp acc => rfl)
        (fun p hp acc => by simp only [u_seq, u_asg, u_call, u_exp, u_if, u_ret, u_setS, u_par, u_nx, nxt_nx, nxt_rt, u_list, u_list0, u_var, u_con, u_bin, u_un1, u_and, u_or, u_chain, u_ite, u_blt, u_tup, u_lst, u_slc, u_opt, u_opt0, im_int, u_nm, u_tgs, u_tgs0, u_tupT, List.getElem?_cons_succ, List.getElem?_cons_zero, bind_ok, thenS_ok, thenI_ok, List.length_cons, List.length_nil, Nat.reduceAdd, Nat.reduceSub, Nat.reduceLT, Nat.reduceLeDiff, Nat.zero_le, if_true, om_some, List.set_cons_succ, List.set_cons_zero, bm_bl, Bool.not_true, Bool.not_false, Bool.false_eq_true, if_false, u_add, u_sub, u_neg, u_not, u_lt, u_le, u_gt, u_ge, u_eqI, u_neI, decide_true, decide_false, u_int, u_intb, methF, List.map_cons, List.map_nil, List.replicate, List.cons_append, List.nil_append, ixr])
        (by simp; omega)
      have em : ((List.range P).map fun p => am (X p i)) = ((List.range P).map fun p => X p i).map am := by rw [List.map_map]; rfl
      rw [em] at l2
      have sq : seqOf (.ref (h ++ acc).length) (h ++ acc ++ [Ob.lst (((List.range P).map fun p => X p i).map am)]) = some (((List.range P).map fun p => X p i).map am, [((h ++ acc).length, ((List.range P).map fun p => X p i).map am)]) := by simp only [seqOf, last_at]
      have ao := _law_sum_ok k M c ((List.range P).map fun p => X p i) _ _ _ sq (by have := g_ref (last_at (h ++ acc) (Ob.lst (((List.range P).map fun p => X p i).map am))) []; rwa [List.append_nil] at this) h0 h1 (len_bd (k := 170) (by simp; omega) hc (by decide)) (fun x hx => by
        obtain ⟨p, hp, rfl⟩ := List.mem_map.1 hx
        exact hb p (List.mem_range.1 hp) i hi)
      refine ⟨[Ob.lst (((List.range P).map fun p => X p i).map am)], ?_⟩
      simp only [u_seq, u_asg, u_call, u_exp, u_if, u_ret, u_setS, u_par, u_nx, nxt_nx, nxt_rt, u_list, u_list0, u_var, u_con, u_bin, u_un1, u_and, u_or, u_chain, u_ite, u_blt, u_tup, u_lst, u_slc, u_opt, u_opt0, im_int, u_nm, u_tgs, u_tgs0, u_tupT, List.getElem?_cons_succ, List.getElem?_cons_zero, bind_ok, thenS_ok, thenI_ok, List.length_cons, List.length_nil, Nat.reduceAdd, Nat.reduceSub, Nat.reduceLT, Nat.reduceLeDiff, Nat.zero_le, if_true, om_some, List.set_cons_succ, List.set_cons_zero, bm_bl, Bool.not_true, Bool.not_false, Bool.false_eq_true, if_false, u_add, u_sub, u_neg, u_not, u_lt, u_le, u_gt, u_ge, u_eqI, u_neI, decide_true, decide_false, u_int, u_intb, methF, List.map_cons, List.map_nil, List.replicate, List.cons_append, List.nil_append, l2, ao]
      rfl)
    (by simp; omega)
  refine fn_list (g := Ob.lst ((List.range K).map fun i => am (rs P fun p => X p i)) :: G) (i := 0) t__law_sums rfl ?_ rfl (grs_map _ (fun _ => rfl) _)
  simp only [R__law_sums, F__law_sums, u_seq, u_asg, u_call, u_exp, u_if, u_ret, u_setS, u_par, u_nx, nxt_nx, nxt_rt, u_list, u_list0, u_var, u_con, u_bin, u_un1, u_and, u_or, u_chain, u_ite, u_blt, u_tup, u_lst, u_slc, u_opt, u_opt0, im_int, u_nm, u_tgs, u_tgs0, u_tupT, List.getElem?_cons_succ, List.getElem?_cons_zero, bind_ok, thenS_ok, thenI_ok, List.length_cons, List.length_nil, Nat.reduceAdd, Nat.reduceSub, Nat.reduceLT, Nat.reduceLeDiff, Nat.zero_le, if_true, om_some, List.set_cons_succ, List.set_cons_zero, bm_bl, Bool.not_true, Bool.not_false, Bool.false_eq_true, if_false, u_add, u_sub, u_neg, u_not, u_lt, u_le, u_gt, u_ge, u_eqI, u_neI, decide_true, decide_false, u_int, u_intb, methF, List.map_cons, List.map_nil, List.replicate, List.cons_append, List.nil_append, lc]
  rfl
/-! the book without throws and sales -/
theorem _law_without_ok (k : Nat) {n : Nat} {b : Bk} (c : BkC n b) (hn : n ≤ 17) (h : Hv) : callK T (k + 1) "_law_without" [b.d, .tup [.str "sell"]] h = .ok b.plain.d h := by
  have cl := c.len
  obtain ⟨env', h', e, ⟨z, rfl⟩, rfl⟩ := for_list (C := callK T k) (tg := nmT 3) (body := F__law_without_b1) (gs := []) Dd.d
    (fun pre env h1 => (∃ z, env = [some b.d, some (.tup [.str "sell"]), some (.ref h.length), z]) ∧ h1 = h ++ [Ob.lst ((plain pre).map Dd.d)]) b.ds
    (fun _ _ _ _ => rfl)
    (by
      rintro pre x post env h1 ew ⟨⟨z, rfl⟩, rfl⟩
      have ep : plain (pre ++ [x]) = plain pre ++ plD x := by simp [plain]
      have lp : (plain pre).length ≤ 17 := by
        have := plain_len pre
        have : pre.length ≤ b.ds.length := by rw [ew]; simp
        omega
      have il : isLst (.ref h.length) (h ++ [Ob.lst ((plain pre).map Dd.d)]) = true := isl_of (last_at _ _)
      have ap := fun d => app_ref (d := d) (last_at h (Ob.lst ((plain pre).map Dd.d))) (by simp; omega)
      simp only [last_set] at ap
      have et : ∀ h, opEqD false (.str x.w) (.str "throw") h = .ok (.bl x.isThr) h := fun h => by rw [Dd.eqW "throw" (by decide +kernel), Dd.isThrW]
      have ei : ∀ h, opIn true (.str x.w) (.tup [.str "sell"]) h = .ok (.bl (!x.isSell)) h := fun h => by cases x <;> rfl
      rw [ep, List.map_append]
      refine ⟨_, rfl, [some b.d, some (.tup [.str "sell"]), some (.ref h.length), some x.d], _, ?_, ⟨_, rfl⟩, rfl⟩
      cases x with
      | throw a m ws w =>
        have sl : ∀ h, opSl (Dd.throw a m ws w).d (some 1) (some 3) h = .ok (.tup [.int a, .int m]) h := fun h => rfl
        have ad : ∀ h, opAdd (.tup [.str "spoil"]) (.tup [.int a, .int m]) h = .ok (Dd.spoil a m).d h := fun h => rfl
        simp only [F__law_without_b1, u_seq, u_asg, u_call, u_exp, u_if, u_ret, u_setS, u_par, u_nx, nxt_nx, nxt_rt, u_list, u_list0, u_var, u_con, u_bin, u_un1, u_and, u_or, u_chain, u_ite, u_blt, u_tup, u_lst, u_slc, u_opt, u_opt0, im_int, u_nm, u_tgs, u_tgs0, u_tupT, List.getElem?_cons_succ, List.getElem?_cons_zero, bind_ok, thenS_ok, thenI_ok, List.length_cons, List.length_nil, Nat.reduceAdd, Nat.reduceSub, Nat.reduceLT, Nat.reduceLeDiff, Nat.zero_le, if_true, om_some, List.set_cons_succ, List.set_cons_zero, bm_bl, Bool.not_true, Bool.not_false, Bool.false_eq_true, if_false, u_add, u_sub, u_neg, u_not, u_lt, u_le, u_gt, u_ge, u_eqI, u_neI, decide_true, decide_false, u_int, u_intb, methF, List.map_cons, List.map_nil, List.replicate, List.cons_append, List.nil_append, Dd.ix0, et, Dd.isThr, sl, ad, il, ap]
        rfl
      | sell p q part =>
        simp only [F__law_without_b1, u_seq, u_asg, u_call, u_exp, u_if, u_ret, u_setS, u_par, u_nx, nxt_nx, nxt_rt, u_list, u_list0, u_var, u_con, u_bin, u_un1, u_and, u_or, u_chain, u_ite, u_blt, u_tup, u_lst, u_slc, u_opt, u_opt0, im_int, u_nm, u_tgs, u_tgs0, u_tupT, List.getElem?_cons_succ, List.getElem?_cons_zero, bind_ok, thenS_ok, thenI_ok, List.length_cons, List.length_nil, Nat.reduceAdd, Nat.reduceSub, Nat.reduceLT, Nat.reduceLeDiff, Nat.zero_le, if_true, om_some, List.set_cons_succ, List.set_cons_zero, bm_bl, Bool.not_true, Bool.not_false, Bool.false_eq_true, if_false, u_add, u_sub, u_neg, u_not, u_lt, u_le, u_gt, u_ge, u_eqI, u_neI, decide_true, decide_false, u_int, u_intb, methF, List.map_cons, List.map_nil, List.replicate, List.cons_append, List.nil_append, Dd.ix0, et, ei, Dd.isThr, Dd.isSell, plD, List.append_nil]
      | bring p q m =>
        simp only [F__law_without_b1, u_seq, u_asg, u_call, u_exp, u_if, u_ret, u_setS, u_par, u_nx, nxt_nx, nxt_rt, u_list, u_list0, u_var, u_con, u_bin, u_un1, u_and, u_or, u_chain, u_ite, u_blt, u_tup, u_lst, u_slc, u_opt, u_opt0, im_int, u_nm, u_tgs, u_tgs0, u_tupT, List.getElem?_cons_succ, List.getElem?_cons_zero, bind_ok, thenS_ok, thenI_ok, List.length_cons, List.length_nil, Nat.reduceAdd, Nat.reduceSub, Nat.reduceLT, Nat.reduceLeDiff, Nat.zero_le, if_true, om_some, List.set_cons_succ, List.set_cons_zero, bm_bl, Bool.not_true, Bool.not_false, Bool.false_eq_true, if_false, u_add, u_sub, u_neg, u_not, u_lt, u_le, u_gt, u_ge, u_eqI, u_neI, decide_true, decide_false, u_int, u_intb, methF, List.map_cons, List.map_nil, List.replicate, List.cons_append, List.nil_append, Dd.ix0, et, ei, Dd.isThr, Dd.isSell, il, ap]
        rfl
      | pool a b2 =>
        simp only [F__law_without_b1, u_seq, u_asg, u_call, u_exp, u_if, u_ret, u_setS, u_par, u_nx, nxt_nx, nxt_rt, u_list, u_list0, u_var, u_con, u_bin, u_un1, u_and, u_or, u_chain, u_ite, u_blt, u_tup, u_lst, u_slc, u_opt, u_opt0, im_int, u_nm, u_tgs, u_tgs0, u_tupT, List.getElem?_cons_succ, List.getElem?_cons_zero, bind_ok, thenS_ok, thenI_ok, List.length_cons, List.length_nil, Nat.reduceAdd, Nat.reduceSub, Nat.reduceLT, Nat.reduceLeDiff, Nat.zero_le, if_true, om_some, List.set_cons_succ, List.set_cons_zero, bm_bl, Bool.not_true, Bool.not_false, Bool.false_eq_true, if_false, u_add, u_sub, u_neg, u_not, u_lt, u_le, u_gt, u_ge, u_eqI, u_neI, decide_true, decide_false, u_int, u_intb, methF, List.map_cons, List.map_nil, List.replicate, List.cons_append, List.nil_append, Dd.ix0, et, ei, Dd.isThr, Dd.isSell, il, ap]
        rfl
      | swap a g q m =>
        simp only [F__law_without_b1, u_seq, u_asg, u_call, u_exp, u_if, u_ret, u_setS, u_par, u_nx, nxt_nx, nxt_rt, u_list, u_list0, u_var, u_con, u_bin, u_un1, u_and, u_or, u_chain, u_ite, u_blt, u_tup, u_lst, u_slc, u_opt, u_opt0, im_int, u_nm, u_tgs, u_tgs0, u_tupT, List.getElem?_cons_succ, List.getElem?_cons_zero, bind_ok, thenS_ok, thenI_ok, List.length_cons, List.length_nil, Nat.reduceAdd, Nat.reduceSub, Nat.reduceLT, Nat.reduceLeDiff, Nat.zero_le, if_true, om_some, List.set_cons_succ, List.set_cons_zero, bm_bl, Bool.not_true, Bool.not_false, Bool.false_eq_true, if_false, u_add, u_sub, u_neg, u_not, u_lt, u_le, u_gt, u_ge, u_eqI, u_neI, decide_true, decide_false, u_int, u_intb, methF, List.map_cons, List.map_nil, List.replicate, List.cons_append, List.nil_append, Dd.ix0, et, ei, Dd.isThr, Dd.isSell, il, ap]
        rfl
      | trade no a g q m =>
        simp only [F__law_without_b1, u_seq, u_asg, u_call, u_exp, u_if, u_ret, u_setS, u_par, u_nx, nxt_nx, nxt_rt, u_list, u_list0, u_var, u_con, u_bin, u_un1, u_and, u_or, u_chain, u_ite, u_blt, u_tup, u_lst, u_slc, u_opt, u_opt0, im_int, u_nm, u_tgs, u_tgs0, u_tupT, List.getElem?_cons_succ, List.getElem?_cons_zero, bind_ok, thenS_ok, thenI_ok, List.length_cons, List.length_nil, Nat.reduceAdd, Nat.reduceSub, Nat.reduceLT, Nat.reduceLeDiff, Nat.zero_le, if_true, om_some, List.set_cons_succ, List.set_cons_zero, bm_bl, Bool.not_true, Bool.not_false, Bool.false_eq_true, if_false, u_add, u_sub, u_neg, u_not, u_lt, u_le, u_gt, u_ge, u_eqI, u_neI, decide_true, decide_false, u_int, u_intb, methF, List.map_cons, List.map_nil, List.replicate, List.cons_append, List.nil_append, Dd.ix0, et, ei, Dd.isThr, Dd.isSell, il, ap]
        rfl
      | spoil a m =>
        simp only [F__law_without_b1, u_seq, u_asg, u_call, u_exp, u_if, u_ret, u_setS, u_par, u_nx, nxt_nx, nxt_rt, u_list, u_list0, u_var, u_con, u_bin, u_un1, u_and, u_or, u_chain, u_ite, u_blt, u_tup, u_lst, u_slc, u_opt, u_opt0, im_int, u_nm, u_tgs, u_tgs0, u_tupT, List.getElem?_cons_succ, List.getElem?_cons_zero, bind_ok, thenS_ok, thenI_ok, List.length_cons, List.length_nil, Nat.reduceAdd, Nat.reduceSub, Nat.reduceLT, Nat.reduceLeDiff, Nat.zero_le, if_true, om_some, List.set_cons_succ, List.set_cons_zero, bm_bl, Bool.not_true, Bool.not_false, Bool.false_eq_true, if_false, u_add, u_sub, u_neg, u_not, u_lt, u_le, u_gt, u_ge, u_eqI, u_neI, decide_true, decide_false, u_int, u_intb, methF, List.map_cons, List.map_nil, List.replicate, List.cons_append, List.nil_append, Dd.ix0, et, ei, Dd.isThr, Dd.isSell, il, ap]
        rfl)
    b.ds [] rfl [some b.d, some (.tup [.str "sell"]), some (.ref h.length), none] (h ++ [Ob.lst []]) ⟨⟨none, rfl⟩, rfl⟩
  have hit : itE (binF opIx (varF 0) (conF (.int 2))) (callK T k) [some b.d, some (.tup [.str "sell"]), some (.ref h.length), none] (h ++ [Ob.lst []]) = .ok (b.ds.map Dd.d, []) (h ++ [Ob.lst []]) := by simp only [itE, u_seq, u_asg, u_call, u_exp, u_if, u_ret, u_setS, u_par, u_nx, nxt_nx, nxt_rt, u_list, u_list0, u_var, u_con, u_bin, u_un1, u_and, u_or, u_chain, u_ite, u_blt, u_tup, u_lst, u_slc, u_opt, u_opt0, im_int, u_nm, u_tgs, u_tgs0, u_tupT, List.getElem?_cons_succ, List.getElem?_cons_zero, bind_ok, thenS_ok, thenI_ok, List.length_cons, List.length_nil, Nat.reduceAdd, Nat.reduceSub, Nat.reduceLT, Nat.reduceLeDiff, Nat.zero_le, if_true, om_some, List.set_cons_succ, List.set_cons_zero, bm_bl, Bool.not_true, Bool.not_false, Bool.false_eq_true, if_false, u_add, u_sub, u_neg, u_not, u_lt, u_le, u_gt, u_ge, u_eqI, u_neI, decide_true, decide_false, u_int, u_intb, methF, List.map_cons, List.map_nil, List.replicate, List.cons_append, List.nil_append, b.ix2, seqOf]
  have sl : ∀ h, opSl b.d none (some 2) h = .ok (.tup [b.tr, lsD b.ls]) h := fun h => by
    have := cut_lo [b.tr, lsD b.ls, .tup (b.ds.map Dd.d)] 2
    simp only [opSl, Bk.d, bookD]
    rw [show (some (2 : Int)) = some ((2 : Nat) : Int) from rfl, this]
    rfl
  have et := u_tuplel (last_at h (Ob.lst (b.plain.ds.map Dd.d)))
  have ad : ∀ h, opAdd (.tup [b.tr, lsD b.ls]) (.tup [.tup (b.plain.ds.map Dd.d)]) h = .ok b.plain.d h := fun h => add_tup (by simp) h
  refine fn_app (g := [Ob.lst (b.plain.ds.map Dd.d)]) t__law_without rfl ?_ (bk_gr _)
  simp only [R__law_without, F__law_without, u_seq, u_asg, u_call, u_exp, u_if, u_ret, u_setS, u_par, u_nx, nxt_nx, nxt_rt, u_list, u_list0, u_var, u_con, u_bin, u_un1, u_and, u_or, u_chain, u_ite, u_blt, u_tup, u_lst, u_slc, u_opt, u_opt0, im_int, u_nm, u_tgs, u_tgs0, u_tupT, List.getElem?_cons_succ, List.getElem?_cons_zero, bind_ok, thenS_ok, thenI_ok, List.length_cons, List.length_nil, Nat.reduceAdd, Nat.reduceSub, Nat.reduceLT, Nat.reduceLeDiff, Nat.zero_le, if_true, om_some, List.set_cons_succ, List.set_cons_zero, bm_bl, Bool.not_true, Bool.not_false, Bool.false_eq_true, if_false, u_add, u_sub, u_neg, u_not, u_lt, u_le, u_gt, u_ge, u_eqI, u_neI, decide_true, decide_false, u_int, u_intb, methF, List.map_cons, List.map_nil, List.replicate, List.cons_append, List.nil_append, u_for, hit, e, sl]
  have et2 : bTuple [.ref h.length] (h ++ [Ob.lst ((plain b.ds).map Dd.d)]) = _ := et
  simp only [u_seq, u_asg, u_call, u_exp, u_if, u_ret, u_setS, u_par, u_nx, nxt_nx, nxt_rt, u_list, u_list0, u_var, u_con, u_bin, u_un1, u_and, u_or, u_chain, u_ite, u_blt, u_tup, u_lst, u_slc, u_opt, u_opt0, im_int, u_nm, u_tgs, u_tgs0, u_tupT, List.getElem?_cons_succ, List.getElem?_cons_zero, bind_ok, thenS_ok, thenI_ok, List.length_cons, List.length_nil, Nat.reduceAdd, Nat.reduceSub, Nat.reduceLT, Nat.reduceLeDiff, Nat.zero_le, if_true, om_some, List.set_cons_succ, List.set_cons_zero, bm_bl, Bool.not_true, Bool.not_false, Bool.false_eq_true, if_false, u_add, u_sub, u_neg, u_not, u_lt, u_le, u_gt, u_ge, u_eqI, u_neI, decide_true, decide_false, u_int, u_intb, methF, List.map_cons, List.map_nil, List.replicate, List.cons_append, List.nil_append, et2, ad]

theorem subs_range (K : Nat) (f g : Nat → Rat) : subs ((List.range K).map f) ((List.range K).map g) = (List.range K).map fun i => f i - g i := by
  simp only [subs, List.zip_map, List.map_map]
  rw [List.zip_eq_zipWith, List.zipWith_self]
  simp [Function.comp_def]
theorem rep_range (K : Nat) (x : D) : List.replicate K x = (List.range K).map fun _ => x := by rw [List.map_const', List.length_range]
theorem mul_l0 (h : Hv) (K : Nat) (hK : K ≤ 5) : opMul (.ref h.length) (.int K) (h ++ [Ob.lst [am 0]]) = .ok (.ref (h ++ [Ob.lst [am 0]]).length) (h ++ [Ob.lst [am 0]] ++ [Ob.lst ((List.range K).map fun _ => am 0)]) := by
  simp only [opMul, last_at]
  rw [if_pos ⟨by omega, by omega, by simp⟩]
  simp [← rep_range]
theorem mul_t0 (h : Hv) (K : Nat) (h1 : 1 ≤ K) (hK : K ≤ 5) : opMul (.tup [am 0]) (.int K) h = .ok (.tup ((List.range K).map fun _ => am 0)) h := by
  simp only [opMul]
  by_cases e : K = 1
  · subst e; rfl
  · rw [if_neg (by omega), if_neg (by omega), if_pos ⟨by simp, by omega, by omega, by simp⟩]
    simp [← rep_range]
theorem subs_self (K : Nat) (f : Nat → Rat) : shD (subs ((List.range K).map f) ((List.range K).map f)) = .tup ((List.range K).map fun _ => am 0) := by
  rw [subs_range, shD, List.map_map]
  congr 2
  funext i
  simp [Rat.sub_self]
theorem lr_ok {C : Or} {env : Env} {h : Hv} {a : EF} {n : Nat} (ha : a C env h = .ok (.int n) h) (hn : n ≤ 900) : lrF a C env h = .ok (.ref h.length) (h ++ [Ob.lst ((List.range n).map fun i => .int (i : Nat))]) := by
  simp only [lrF, ha, bind_ok]
  rw [if_pos ⟨by omega, by omega⟩]
  simp [rng]
section
variable {b : Bk} (c : BkC 14 b)
include c
theorem k65_b3 (bd : D) (hbd : bd = b.d) (b0 : Bk) (hK0 : b0.K = b.K) (h : Hv) (E : Nat) (hE : h[E]? = some (Ob.lst ((List.range b.P).map fun i => .int (i : Nat)))) (z0 z1 z2 z4 z7 z8 z9 z10 z11 z12 : Option D) :
    ∃ e y8 y9, F_law_b3 (callK T 59) [z0, z1, z2, some b0.d, z4, some (.ref E), some b.d, z7, z8, z9, z10, z11, z12] h = .nx [z0, z1, z2, some b0.d, z4, some (.ref E), some b.d, z7, y8, y9, z10, z11, z12] (h ++ e) := by
  have hP := c.P
  have hK := c.K
  have cl := c.len
  obtain ⟨M, M0, M1, bk, bt⟩ := c.difs
  have st := p_stock_by c (by omega) 48 b.ds.length (Nat.le_refl _) h
  have sm := aloneK_sum c (by omega)
  have tm := fun kd => all_theirs (P := b.P) kd (b.st b.ds.length).ls (fun l hl => ⟨(c.ones (by omega) b.ds.length).ls l hl, (c.facts (by omega) b.ds.length).choose_spec.sl l hl⟩)
  have ln := fun h => b.len2 h
  have eA : ∀ p, aloneK b p = (List.range b.K).map (fun i => kf ((b.st b.ds.length).ls.zip (alone b p b.ds.length)) i) := fun p => rfl
  have eT : ∀ p, theirs b.K (b.st b.ds.length).ls p = (List.range b.K).map (fun i => theirs1 (b.st b.ds.length).ls p i) := fun p => rfl
  have al := fun p hp h => p_alone_of c (by omega) 45 p hp h
  have bo := fun p hp h => p_by_others c (by omega) 45 p hp h
  simp only [eA, eT, subs_range] at al bo
  have lS : (stock b.K (b.st b.ds.length).ls).length ≤ 10 := by simp [stock]; omega
  have l1 := lc_all (C := callK T 59) (env := [z0, z1, z2, some (b0.d), z4, some (.ref E), some (b.d), z7, z8, z9, z10, z11, z12]) (it := (itE (callF "stock_by" [(varF 6), (bltF bLen [(binF opIx (varF 6) (conF (.int 2)))])]))) (tg := (nmT 12)) (own := [12]) (elt := (tupF [(varF 12), (conF (.int 1))]))
    (gs := []) (h := h) (h1 := h) (stock b.K (b.st b.ds.length).ls) (fun n => .int n) (fun n => am (n : Rat)) (fun n => [z0, z1, z2, some (b0.d), z4, some (.ref E), some (b.d), z7, z8, z9, z10, z11, some (.int n)])
    (itE_s (d := wsD (stock b.K (b.st b.ds.length).ls)) (by simp only [u_seq, u_asg, u_call, u_exp, u_if, u_ret, u_setS, u_par, u_nx, nxt_nx, nxt_rt, u_list, u_list0, u_var, u_con, u_bin, u_un1, u_and, u_or, u_chain, u_ite, u_blt, u_tup, u_lst, u_slc, u_opt, u_opt0, im_int, u_nm, u_tgs, u_tgs0, u_tupT, List.getElem?_cons_succ, List.getElem?_cons_zero, bind_ok, thenS_ok, thenI_ok, List.length_cons, List.length_nil, Nat.reduceAdd, Nat.reduceSub, Nat.reduceLT, Nat.reduceLeDiff, Nat.zero_le, if_true, om_some, List.set_cons_succ, List.set_cons_zero, bm_bl, Bool.not_true, Bool.not_false, Bool.false_eq_true, if_false, u_add, u_sub, u_neg, u_not, u_lt, u_le, u_gt, u_ge, u_eqI, u_neI, decide_true, decide_false, u_int, u_intb, methF, List.map_cons, List.map_nil, List.replicate, List.cons_append, List.nil_append, b.ix2, len_ds, st]) rfl) (fun _ => rfl) (fun n hn acc => rfl)
    (fun n hn acc => by simp only [u_seq, u_asg, u_call, u_exp, u_if, u_ret, u_setS, u_par, u_nx, nxt_nx, nxt_rt, u_list, u_list0, u_var, u_con, u_bin, u_un1, u_and, u_or, u_chain, u_ite, u_blt, u_tup, u_lst, u_slc, u_opt, u_opt0, im_int, u_nm, u_tgs, u_tgs0, u_tupT, List.getElem?_cons_succ, List.getElem?_cons_zero, bind_ok, thenS_ok, thenI_ok, List.length_cons, List.length_nil, Nat.reduceAdd, Nat.reduceSub, Nat.reduceLT, Nat.reduceLeDiff, Nat.zero_le, if_true, om_some, List.set_cons_succ, List.set_cons_zero, bm_bl, Bool.not_true, Bool.not_false, Bool.false_eq_true, if_false, u_add, u_sub, u_neg, u_not, u_lt, u_le, u_gt, u_ge, u_eqI, u_neI, decide_true, decide_false, u_int, u_intb, methF, List.map_cons, List.map_nil, List.replicate, List.cons_append, List.nil_append, am_int])
    (by omega)
  obtain ⟨h1, hh1⟩ : ∃ h1, h1 = h ++ [Ob.lst ((stock b.K (b.st b.ds.length).ls).map fun n => am ((n : Int) : Rat))] := ⟨_, rfl⟩
  rw [← hh1] at l1
  have g1 : h1[h.length]? = some (Ob.lst ((stock b.K (b.st b.ds.length).ls).map fun n => am ((n : Int) : Rat))) := by rw [hh1]; exact last_at _ _
  have g2 : h1[E]? = some (Ob.lst ((List.range b.P).map fun i => .int (i : Nat))) := by rw [hh1]; exact row_old hE
  have l2 := lc_all (C := callK T 59) (env := [z0, z1, z2, some (b0.d), z4, some (.ref E), some (b.d), z7, some (.ref h.length), z9, z10, z11, z12]) (it := (itE (varF 5))) (tg := (nmT 7)) (own := [7]) (elt := (callF "alone_of" [(varF 6), (varF 7)]))
    (gs := [(E, (List.range b.P).map fun i => .int (i : Nat))]) (h := h1) (h1 := h1) (List.range b.P) (fun p => .int (p : Nat)) (fun p => shD ((List.range b.K).map fun i => kf ((b.st b.ds.length).ls.zip (alone b p b.ds.length)) i)) (fun p => [z0, z1, z2, some (b0.d), z4, some (.ref E), some (b.d), some (.int (p : Nat)), some (.ref h.length), z9, z10, z11, z12])
    (itE_s rfl (by simp only [seqOf, g2])) (fun a2 => g_ref g2 _) (fun p hp acc => rfl)
    (fun p hp acc => by simp only [u_seq, u_asg, u_call, u_exp, u_if, u_ret, u_setS, u_par, u_nx, nxt_nx, nxt_rt, u_list, u_list0, u_var, u_con, u_bin, u_un1, u_and, u_or, u_chain, u_ite, u_blt, u_tup, u_lst, u_slc, u_opt, u_opt0, im_int, u_nm, u_tgs, u_tgs0, u_tupT, List.getElem?_cons_succ, List.getElem?_cons_zero, bind_ok, thenS_ok, thenI_ok, List.length_cons, List.length_nil, Nat.reduceAdd, Nat.reduceSub, Nat.reduceLT, Nat.reduceLeDiff, Nat.zero_le, if_true, om_some, List.set_cons_succ, List.set_cons_zero, bm_bl, Bool.not_true, Bool.not_false, Bool.false_eq_true, if_false, u_add, u_sub, u_neg, u_not, u_lt, u_le, u_gt, u_ge, u_eqI, u_neI, decide_true, decide_false, u_int, u_intb, methF, List.map_cons, List.map_nil, List.replicate, List.cons_append, List.nil_append, al p (List.mem_range.1 hp)])
    (by simp; omega)
  obtain ⟨h2, hh2⟩ : ∃ h2, h2 = h1 ++ [Ob.lst ((List.range b.P).map fun p => shD ((List.range b.K).map fun i => kf ((b.st b.ds.length).ls.zip (alone b p b.ds.length)) i))] := ⟨_, rfl⟩
  rw [← hh2] at l2
  have s1 := _law_sums_ok 54 b.P b.K M (2 ^ 170) (fun p i => kf ((b.st b.ds.length).ls.zip (alone b p b.ds.length)) i) h2 h1.length (by rw [hh2]; exact last_at _ _) ⟨hP.1, by omega⟩ (by omega) M0 M1 (Nat.le_refl _) (fun p hp i _ => bk p hp i)
  simp only [sm] at s1
  have es : ((stock b.K (b.st b.ds.length).ls).map fun n => am ((n : Int) : Rat)) = (List.range b.K).map fun i => am ((stock1 (b.st b.ds.length).ls i : Int) : Rat) := by rw [stock, List.map_map]; rfl
  rw [es] at g1
  have q1 := eq_lists (h := h2 ++ [Ob.lst ((List.range b.K).map fun i => am ((stock1 (b.st b.ds.length).ls i : Int) : Rat))]) (p := h2.length) (q := h.length) (last_at _ _) (row_old (by rw [hh2]; exact row_old g1)) (fls_map _ _ (fun i => fl_am 58 _) _) true
  obtain ⟨h3, hh3⟩ : ∃ h3, h3 = h2 ++ [Ob.lst ((List.range b.K).map fun i => am ((stock1 (b.st b.ds.length).ls i : Int) : Rat))] := ⟨_, rfl⟩
  rw [← hh3] at s1 q1
  have g3 : h3[E]? = some (Ob.lst ((List.range b.P).map fun i => .int (i : Nat))) := by rw [hh3, hh2]; exact row_old (row_old g2)
  have l3 := lc_all (C := callK T 59) (env := [z0, z1, z2, some (b0.d), z4, some (.ref E), some (b.d), z7, some (.ref h.length), z9, z10, z11, z12]) (it := (itE (varF 5))) (tg := (nmT 7)) (own := [7]) (elt := (callF "by_others" [(varF 6), (varF 7)]))
    (gs := [(E, (List.range b.P).map fun i => .int (i : Nat))]) (h := h3) (h1 := h3) (List.range b.P) (fun p => .int (p : Nat)) (fun p => shD ((List.range b.K).map fun i => theirs1 (b.st b.ds.length).ls p i - kf ((b.st b.ds.length).ls.zip (alone b p b.ds.length)) i)) (fun p => [z0, z1, z2, some (b0.d), z4, some (.ref E), some (b.d), some (.int (p : Nat)), some (.ref h.length), z9, z10, z11, z12])
    (itE_s rfl (by simp only [seqOf, g3])) (fun a2 => g_ref g3 _) (fun p hp acc => rfl)
    (fun p hp acc => by simp only [u_seq, u_asg, u_call, u_exp, u_if, u_ret, u_setS, u_par, u_nx, nxt_nx, nxt_rt, u_list, u_list0, u_var, u_con, u_bin, u_un1, u_and, u_or, u_chain, u_ite, u_blt, u_tup, u_lst, u_slc, u_opt, u_opt0, im_int, u_nm, u_tgs, u_tgs0, u_tupT, List.getElem?_cons_succ, List.getElem?_cons_zero, bind_ok, thenS_ok, thenI_ok, List.length_cons, List.length_nil, Nat.reduceAdd, Nat.reduceSub, Nat.reduceLT, Nat.reduceLeDiff, Nat.zero_le, if_true, om_some, List.set_cons_succ, List.set_cons_zero, bm_bl, Bool.not_true, Bool.not_false, Bool.false_eq_true, if_false, u_add, u_sub, u_neg, u_not, u_lt, u_le, u_gt, u_ge, u_eqI, u_neI, decide_true, decide_false, u_int, u_intb, methF, List.map_cons, List.map_nil, List.replicate, List.cons_append, List.nil_append, bo p (List.mem_range.1 hp)])
    (by simp; omega)
  obtain ⟨h4, hh4⟩ : ∃ h4, h4 = h3 ++ [Ob.lst ((List.range b.P).map fun p => shD ((List.range b.K).map fun i => theirs1 (b.st b.ds.length).ls p i - kf ((b.st b.ds.length).ls.zip (alone b p b.ds.length)) i))] := ⟨_, rfl⟩
  rw [← hh4] at l3
  have s2 := _law_sums_ok 54 b.P b.K M (2 ^ 170) (fun p i => theirs1 (b.st b.ds.length).ls p i - kf ((b.st b.ds.length).ls.zip (alone b p b.ds.length)) i) h4 h3.length (by rw [hh4]; exact last_at _ _) ⟨hP.1, by omega⟩ (by omega) M0 M1 (Nat.le_refl _) (fun p hp i _ => bt p hp i)
  have dz : ∀ i, rs b.P (fun p => theirs1 (b.st b.ds.length).ls p i - kf ((b.st b.ds.length).ls.zip (alone b p b.ds.length)) i) = 0 := fun i => by
    have e : ∀ p, theirs1 (b.st b.ds.length).ls p i - kf ((b.st b.ds.length).ls.zip (alone b p b.ds.length)) i = theirs1 (b.st b.ds.length).ls p i + (-1 : Rat) * kf ((b.st b.ds.length).ls.zip (alone b p b.ds.length)) i := fun p => by grind
    simp only [e]
    rw [rs_add, rs_mul, sm i, rs, tm i]
    grind
  simp only [dz] at s2
  obtain ⟨h5, hh5⟩ : ∃ h5, h5 = h4 ++ [Ob.lst ((List.range b.K).map fun _ => am 0)] := ⟨_, rfl⟩
  rw [← hh5] at s2
  have mu := mul_l0 h5 b.K hK.2
  have q2 := eq_lists (h := h5 ++ [Ob.lst [am 0]] ++ [Ob.lst ((List.range b.K).map fun _ => am 0)]) (p := h4.length) (q := (h5 ++ [Ob.lst [am 0]]).length) (row_old (row_old (by rw [hh5]; exact last_at _ _))) (last_at _ _) (fls_map _ _ (fun i => fl_am 58 _) _) true
  have a0 : D.tup [.int 0, .int 1] = am 0 := rfl
  have k1 := fun h => b0.tr1 h
  rw [hK0] at k1
  refine ⟨[Ob.lst ((stock b.K (b.st b.ds.length).ls).map fun n => am ((n : Int) : Rat))] ++ ([Ob.lst ((List.range b.P).map fun p => shD ((List.range b.K).map fun i => kf ((b.st b.ds.length).ls.zip (alone b p b.ds.length)) i))] ++ ([Ob.lst ((List.range b.K).map fun i => am ((stock1 (b.st b.ds.length).ls i : Int) : Rat))] ++ ([Ob.lst ((List.range b.P).map fun p => shD ((List.range b.K).map fun i => theirs1 (b.st b.ds.length).ls p i - kf ((b.st b.ds.length).ls.zip (alone b p b.ds.length)) i))] ++ ([Ob.lst ((List.range b.K).map fun _ => am 0)] ++ ([Ob.lst [am 0]] ++ [Ob.lst ((List.range b.K).map fun _ => am 0)]))))), some (.ref h.length), some (.ref h4.length), ?_⟩
  simp only [F_law_b3, u_seq, u_asg, u_call, u_exp, u_if, u_ret, u_setS, u_par, u_nx, nxt_nx, nxt_rt, u_list, u_list0, u_var, u_con, u_bin, u_un1, u_and, u_or, u_chain, u_ite, u_blt, u_tup, u_lst, u_slc, u_opt, u_opt0, im_int, u_nm, u_tgs, u_tgs0, u_tupT, List.getElem?_cons_succ, List.getElem?_cons_zero, bind_ok, thenS_ok, thenI_ok, List.length_cons, List.length_nil, Nat.reduceAdd, Nat.reduceSub, Nat.reduceLT, Nat.reduceLeDiff, Nat.zero_le, if_true, om_some, List.set_cons_succ, List.set_cons_zero, bm_bl, Bool.not_true, Bool.not_false, Bool.false_eq_true, if_false, u_add, u_sub, u_neg, u_not, u_lt, u_le, u_gt, u_ge, u_eqI, u_neI, decide_true, decide_false, u_int, u_intb, methF, List.map_cons, List.map_nil, List.replicate, List.cons_append, List.nil_append, l1, l2, s1, q1, l3, s2, b0.ix0, k1, a0, mu, q2]
  rw [hh5, hh4, hh3, hh2, hh1]
  simp only [List.append_assoc, List.cons_append, List.nil_append]
theorem k65_b1 (p i : Nat) (hp : p < b.P) (hi : i < b.ds.length) (hs : b.ds[i].isSell = true) (h : Hv) (z0 z1 z2 z4 z5 z6 z8 z9 z12 : Option D) :
    F_law_b1 (callK T 59) [z0, z1, z2, some b.d, z4, z5, z6, some (.int p), z8, z9, some (shD (aloneK b p)), some (.int i), z12] h = .nx [z0, z1, z2, some b.d, z4, z5, z6, some (.int p), z8, z9, some (shD (aloneK b p)), some (.int i), z12] h := by
  have un := p_unsold c (by omega) 48 i hi hs h
  have al := p_alone_of (c.out hi hs) (by omega) 45 p hp h
  rw [aloneK_out c hi hs] at al
  have q1 := eq_fl (shD (aloneK b p)) h (fl_sh 58 _) true
  simp only [F_law_b1, u_seq, u_asg, u_call, u_exp, u_if, u_ret, u_setS, u_par, u_nx, nxt_nx, nxt_rt, u_list, u_list0, u_var, u_con, u_bin, u_un1, u_and, u_or, u_chain, u_ite, u_blt, u_tup, u_lst, u_slc, u_opt, u_opt0, im_int, u_nm, u_tgs, u_tgs0, u_tupT, List.getElem?_cons_succ, List.getElem?_cons_zero, bind_ok, thenS_ok, thenI_ok, List.length_cons, List.length_nil, Nat.reduceAdd, Nat.reduceSub, Nat.reduceLT, Nat.reduceLeDiff, Nat.zero_le, if_true, om_some, List.set_cons_succ, List.set_cons_zero, bm_bl, Bool.not_true, Bool.not_false, Bool.false_eq_true, if_false, u_add, u_sub, u_neg, u_not, u_lt, u_le, u_gt, u_ge, u_eqI, u_neI, decide_true, decide_false, u_int, u_intb, methF, List.map_cons, List.map_nil, List.replicate, List.cons_append, List.nil_append, un, al, q1]
theorem k65_b2 (p : Nat) (hp : p < b.P) (h : Hv) (z0 z1 z2 z5 z6 z8 z9 z10 z11 z12 : Option D) :
    ∃ e y10 y11, F_law_b2 (callK T 59) [z0, z1, z2, some b.d, some b.plain.d, z5, z6, some (.int p), z8, z9, z10, z11, z12] h = .nx [z0, z1, z2, some b.d, some b.plain.d, z5, z6, some (.int p), z8, z9, y10, y11, z12] (h ++ e) := by
  have hK := c.K
  have cl := c.len
  have cp := c.plain
  have cq := cp.len
  have a1 := p_alone_of c (by omega) 45 p hp h
  have a2 := p_alone_of cp (by omega) 45 p hp h
  rw [aloneK_plain c] at a2
  have q1 := eq_fl (shD (aloneK b p)) h (fl_sh 58 _) true
  have th := p_theirs_by cp (by omega) 47 b.plain.ds.length p (Nat.le_refl _) hp h
  have tp := theirs_plain c (by omega) hp
  rw [tp] at th
  have bo := p_by_others cp (by omega) 45 p hp h
  rw [tp, aloneK_plain c, show aloneK b p = (List.range b.K).map (fun i => kf ((b.st b.ds.length).ls.zip (alone b p b.ds.length)) i) from rfl, subs_self] at bo
  have mu := mul_t0 h b.K hK.1 hK.2
  have q2 := eq_fl (.tup ((List.range b.K).map fun _ => am 0)) h (by simp only [D.fl]; exact fls_map _ _ (fun _ => fl_am 58 _) _) true
  have a0 : D.tup [.int 0, .int 1] = am 0 := rfl
  obtain ⟨ps, hps, el⟩ := _law_places_ok 58 14 "sell" (by decide +kernel) b (by omega) h
  have sl : opSl (.ref h.length) none (some 2) (h ++ [Ob.lst (ps.map fun i => .int (i : Nat))]) = .ok (.ref (h ++ [Ob.lst (ps.map fun i => .int (i : Nat))]).length) (h ++ [Ob.lst (ps.map fun i => .int (i : Nat))] ++ [Ob.lst ((ps.take 2).map fun i => .int (i : Nat))]) := by
    have := cut_lo (ps.map fun i => D.int (i : Nat)) 2
    simp only [opSl, last_at]
    rw [show (some (2 : Int)) = some ((2 : Nat) : Int) from rfl, this, List.map_take]
  obtain ⟨H, hH⟩ : ∃ H, H = h ++ [Ob.lst (ps.map fun i => .int (i : Nat))] := ⟨_, rfl⟩
  rw [← hH] at sl el
  obtain ⟨env', h', ef, ⟨y11, rfl⟩, rfl⟩ := for_list (C := callK T 59) (tg := nmT 11) (body := F_law_b1) (gs := [(H.length, (ps.take 2).map fun i => .int (i : Nat))]) (fun i : Nat => .int (i : Nat))
    (fun pre env h1 => (∃ y11, env = [z0, z1, z2, some b.d, some b.plain.d, z5, z6, some (.int p), z8, z9, some (shD (aloneK b p)), y11, z12]) ∧ h1 = H ++ [Ob.lst ((ps.take 2).map fun i => .int (i : Nat))]) (ps.take 2)
    (by
      rintro pre env h1 ⟨_, rfl⟩
      have := g_ref (last_at H (Ob.lst ((ps.take 2).map fun i => .int (i : Nat)))) []
      rwa [List.append_nil] at this)
    (by
      rintro pre j post env h1 ew ⟨⟨y11, rfl⟩, rfl⟩
      obtain ⟨hj, hw⟩ := hps j (List.mem_of_mem_take (mem_of_eq ew))
      rw [Dd.isSellW] at hw
      exact ⟨_, rfl, _, _, k65_b1 c p j hp hj hw _ z0 z1 z2 _ z5 z6 z8 z9 z12, ⟨_, rfl⟩, rfl⟩)
    (ps.take 2) [] rfl [z0, z1, z2, some b.d, some b.plain.d, z5, z6, some (.int p), z8, z9, some (shD (aloneK b p)), z11, z12] (H ++ [Ob.lst ((ps.take 2).map fun i => .int (i : Nat))]) ⟨⟨_, rfl⟩, rfl⟩
  have hit : itE (slcF opSl (callF "_law_places" [(varF 3), (conF (.str "sell"))]) none (some (conF (.int 2)))) (callK T 59) [z0, z1, z2, some b.d, some b.plain.d, z5, z6, some (.int p), z8, z9, some (shD (aloneK b p)), z11, z12] h = .ok ((ps.take 2).map fun i => .int (i : Nat), [(H.length, (ps.take 2).map fun i => .int (i : Nat))]) (H ++ [Ob.lst ((ps.take 2).map fun i => .int (i : Nat))]) := by
    simp only [itE, u_seq, u_asg, u_call, u_exp, u_if, u_ret, u_setS, u_par, u_nx, nxt_nx, nxt_rt, u_list, u_list0, u_var, u_con, u_bin, u_un1, u_and, u_or, u_chain, u_ite, u_blt, u_tup, u_lst, u_slc, u_opt, u_opt0, im_int, u_nm, u_tgs, u_tgs0, u_tupT, List.getElem?_cons_succ, List.getElem?_cons_zero, bind_ok, thenS_ok, thenI_ok, List.length_cons, List.length_nil, Nat.reduceAdd, Nat.reduceSub, Nat.reduceLT, Nat.reduceLeDiff, Nat.zero_le, if_true, om_some, List.set_cons_succ, List.set_cons_zero, bm_bl, Bool.not_true, Bool.not_false, Bool.false_eq_true, if_false, u_add, u_sub, u_neg, u_not, u_lt, u_le, u_gt, u_ge, u_eqI, u_neI, decide_true, decide_false, u_int, u_intb, methF, List.map_cons, List.map_nil, List.replicate, List.cons_append, List.nil_append, el, sl, seqOf, last_at]
  refine ⟨[Ob.lst (ps.map fun i => .int (i : Nat))] ++ [Ob.lst ((ps.take 2).map fun i => .int (i : Nat))], some (shD (aloneK b p)), y11, ?_⟩
  simp only [F_law_b2, u_seq, u_asg, u_call, u_exp, u_if, u_ret, u_setS, u_par, u_nx, nxt_nx, nxt_rt, u_list, u_list0, u_var, u_con, u_bin, u_un1, u_and, u_or, u_chain, u_ite, u_blt, u_tup, u_lst, u_slc, u_opt, u_opt0, im_int, u_nm, u_tgs, u_tgs0, u_tupT, List.getElem?_cons_succ, List.getElem?_cons_zero, bind_ok, thenS_ok, thenI_ok, List.length_cons, List.length_nil, Nat.reduceAdd, Nat.reduceSub, Nat.reduceLT, Nat.reduceLeDiff, Nat.zero_le, if_true, om_some, List.set_cons_succ, List.set_cons_zero, bm_bl, Bool.not_true, Bool.not_false, Bool.false_eq_true, if_false, u_add, u_sub, u_neg, u_not, u_lt, u_le, u_gt, u_ge, u_eqI, u_neI, decide_true, decide_false, u_int, u_intb, methF, List.map_cons, List.map_nil, List.replicate, List.cons_append, List.nil_append, a1, a2, q1, Bk.ix2, len_ds, th, bo, b.ix0, b.tr1, a0, mu, q2, u_for, hit, ef]
  rw [hH]
  simp only [List.append_assoc, List.cons_append, List.nil_append]
end
theorem k65_cell (ns : List Int) (i : Nat) (zs : List (Option D)) (h : Hv) (hz : zs.length = 11) (h0 : h[0]? = some (.ro (ns.map .int))) :
    ∃ (zs' : List (Option D)) (h' : Hv), zs'.length = 11 ∧ F_law_b4 (callK T 59) (some (.ref 0) :: some (.int (i : Nat)) :: zs) h = .nx (some (.ref 0) :: some (.int (i : Nat)) :: zs') h' ∧ h'[0]? = some (.ro (ns.map .int)) := by
  obtain ⟨z2, z3, z4, z5, z6, z7, z8, z9, z10, z11, z12, rfl⟩ := zs11 hz
  obtain ⟨cl, ec⟩ := _law_cell_at_ok 58 ns i 0 h h0
  obtain ⟨pen, hpn, ep⟩ := _law_pen_ok 58 cl h
  obtain ⟨b, pen', c, hpn', eb⟩ := _law_book_of_ok 50 14 "sell" (by decide +kernel) h pen [] (by omega) hpn
  have eb' : callK T 59 "_law_book_of" [.ref h.length, .int 14, .str "sell"] (hp h pen []) = .ok b.d (hp h pen' []) := eb
  have hP := c.P
  have g0 : ∀ e, (hp h pen' [] ++ e)[0]? = some (.ro (ns.map .int)) := fun e => by rw [hp_app]; exact ref0_hp h0
  obtain ⟨H, hH⟩ : ∃ H, H = hp h pen' [] := ⟨_, rfl⟩
  rw [← hH] at eb' g0
  have ew := _law_without_ok 58 c.toBkC (by omega) H
  have elr : lrF (binF opIx (binF opIx (varF 3) (conF (.int 0))) (conF (.int 0))) (callK T 59) [some (.ref 0), some (.int (i : Nat)), some (.ref h.length), some b.d, some b.plain.d, z5, z6, z7, z8, z9, z10, z11, z12] H = .ok (.ref H.length) (H ++ [Ob.lst ((List.range b.P).map fun i => .int (i : Nat))]) := lr_ok (by simp only [u_seq, u_asg, u_call, u_exp, u_if, u_ret, u_setS, u_par, u_nx, nxt_nx, nxt_rt, u_list, u_list0, u_var, u_con, u_bin, u_un1, u_and, u_or, u_chain, u_ite, u_blt, u_tup, u_lst, u_slc, u_opt, u_opt0, im_int, u_nm, u_tgs, u_tgs0, u_tupT, List.getElem?_cons_succ, List.getElem?_cons_zero, bind_ok, thenS_ok, thenI_ok, List.length_cons, List.length_nil, Nat.reduceAdd, Nat.reduceSub, Nat.reduceLT, Nat.reduceLeDiff, Nat.zero_le, if_true, om_some, List.set_cons_succ, List.set_cons_zero, bm_bl, Bool.not_true, Bool.not_false, Bool.false_eq_true, if_false, u_add, u_sub, u_neg, u_not, u_lt, u_le, u_gt, u_ge, u_eqI, u_neI, decide_true, decide_false, u_int, u_intb, methF, List.map_cons, List.map_nil, List.replicate, List.cons_append, List.nil_append, b.ix0, b.tr0]) (by omega)
  obtain ⟨H1, hH1⟩ : ∃ H1, H1 = H ++ [Ob.lst ((List.range b.P).map fun i => .int (i : Nat))] := ⟨_, rfl⟩
  have gE : H1[H.length]? = some (Ob.lst ((List.range b.P).map fun i => .int (i : Nat))) := by rw [hH1]; exact last_at _ _
  rw [← hH1] at elr
  obtain ⟨env', h', ef, ⟨w6, w8, w9, rfl⟩, e2, rfl⟩ := for_list (C := callK T 59) (tg := nmT 6) (body := F_law_b3) (gs := []) Bk.d
    (fun pre env h1 => (∃ w6 w8 w9, env = [some (.ref 0), some (.int (i : Nat)), some (.ref h.length), some b.d, some b.plain.d, some (.ref H.length), w6, z7, w8, w9, z10, z11, z12]) ∧ ∃ e2, h1 = H1 ++ e2) [b, b.plain]
    (fun _ _ _ _ => rfl)
    (by
      rintro pre o post env h1 eo ⟨⟨w6, w8, w9, rfl⟩, e2, rfl⟩
      have ho : ∃ y8 y9 e3, F_law_b3 (callK T 59) [some (.ref 0), some (.int (i : Nat)), some (.ref h.length), some b.d, some b.plain.d, some (.ref H.length), some o.d, z7, w8, w9, z10, z11, z12] (H1 ++ e2) = .nx [some (.ref 0), some (.int (i : Nat)), some (.ref h.length), some b.d, some b.plain.d, some (.ref H.length), some o.d, z7, y8, y9, z10, z11, z12] (H1 ++ e2 ++ e3) := by
        have hm : o ∈ [b, b.plain] := mem_of_eq eo
        simp only [List.mem_cons, List.not_mem_nil, or_false] at hm
        rcases hm with rfl | rfl
        · obtain ⟨e3, y8, y9, q⟩ := k65_b3 c.toBkC _ rfl o rfl (H1 ++ e2) H.length (row_old gE) (some (.ref 0)) (some (.int (i : Nat))) (some (.ref h.length)) (some o.plain.d) z7 w8 w9 z10 z11 z12
          exact ⟨_, _, _, q⟩
        · obtain ⟨e3, y8, y9, q⟩ := k65_b3 c.toBkC.plain _ rfl b rfl (H1 ++ e2) H.length (row_old gE) (some (.ref 0)) (some (.int (i : Nat))) (some (.ref h.length)) (some b.plain.d) z7 w8 w9 z10 z11 z12
          exact ⟨_, _, _, q⟩
      obtain ⟨y8, y9, e3, q⟩ := ho
      exact ⟨_, rfl, _, _, q, ⟨_, _, _, rfl⟩, e2 ++ e3, by simp⟩)
    [b, b.plain] [] rfl [some (.ref 0), some (.int (i : Nat)), some (.ref h.length), some b.d, some b.plain.d, some (.ref H.length), z6, z7, z8, z9, z10, z11, z12] H1 ⟨⟨_, _, _, rfl⟩, [], by simp⟩
  simp only [List.map_cons, List.map_nil] at ef
  obtain ⟨env', h', ef2, ⟨w7, w10, w11, rfl⟩, e3, rfl⟩ := for_upto (C := callK T 59) (tg := nmT 7) (body := F_law_b2) (gs := [(H.length, (List.range b.P).map fun i => .int (i : Nat))]) (fun i => .int (i : Nat))
    (fun j env h1 => (∃ w7 w10 w11, env = [some (.ref 0), some (.int (i : Nat)), some (.ref h.length), some b.d, some b.plain.d, some (.ref H.length), w6, w7, w8, w9, w10, w11, z12]) ∧ ∃ e3, h1 = H1 ++ e2 ++ e3) b.P
    (by rintro j env h1 ⟨_, e3, rfl⟩; exact g_ref (row_old gE) _)
    (by
      rintro j env h1 hj ⟨⟨w7, w10, w11, rfl⟩, e3, rfl⟩
      obtain ⟨e4, y10, y11, q⟩ := k65_b2 c.toBkC j hj (H1 ++ e2 ++ e3) (some (.ref 0)) (some (.int (i : Nat))) (some (.ref h.length)) (some (.ref H.length)) w6 w8 w9 w10 w11 z12
      exact ⟨_, rfl, _, _, q, ⟨_, _, _, rfl⟩, e3 ++ e4, by simp⟩)
    [some (.ref 0), some (.int (i : Nat)), some (.ref h.length), some b.d, some b.plain.d, some (.ref H.length), w6, z7, w8, w9, z10, z11, z12] (H1 ++ e2) ⟨⟨_, _, _, rfl⟩, [], by simp⟩
  refine ⟨[some (.ref h.length), some b.d, some b.plain.d, some (.ref H.length), w6, w7, w8, w9, w10, w11, z12], H1 ++ e2 ++ e3, rfl, ?_, by rw [hH1, List.append_assoc, List.append_assoc]; exact g0 _⟩
  have hit : itE (tupF [(varF 3), (varF 4)]) (callK T 59) [some (.ref 0), some (.int (i : Nat)), some (.ref h.length), some b.d, some b.plain.d, some (.ref H.length), z6, z7, z8, z9, z10, z11, z12] H1 = .ok ([b.d, b.plain.d], []) H1 := by simp only [itE, u_seq, u_asg, u_call, u_exp, u_if, u_ret, u_setS, u_par, u_nx, nxt_nx, nxt_rt, u_list, u_list0, u_var, u_con, u_bin, u_un1, u_and, u_or, u_chain, u_ite, u_blt, u_tup, u_lst, u_slc, u_opt, u_opt0, im_int, u_nm, u_tgs, u_tgs0, u_tupT, List.getElem?_cons_succ, List.getElem?_cons_zero, bind_ok, thenS_ok, thenI_ok, List.length_cons, List.length_nil, Nat.reduceAdd, Nat.reduceSub, Nat.reduceLT, Nat.reduceLeDiff, Nat.zero_le, if_true, om_some, List.set_cons_succ, List.set_cons_zero, bm_bl, Bool.not_true, Bool.not_false, Bool.false_eq_true, if_false, u_add, u_sub, u_neg, u_not, u_lt, u_le, u_gt, u_ge, u_eqI, u_neI, decide_true, decide_false, u_int, u_intb, methF, List.map_cons, List.map_nil, List.replicate, List.cons_append, List.nil_append, seqOf]
  have hit2 : itE (varF 5) (callK T 59) [some (.ref 0), some (.int (i : Nat)), some (.ref h.length), some b.d, some b.plain.d, some (.ref H.length), w6, z7, w8, w9, z10, z11, z12] (H1 ++ e2) = .ok ((List.range b.P).map fun i => .int (i : Nat), [(H.length, (List.range b.P).map fun i => .int (i : Nat))]) (H1 ++ e2) := itE_s rfl (by simp only [seqOf, row_old gE])
  rw [← hH] at eb
  simp only [F_law_b4, u_seq, u_asg, u_call, u_exp, u_if, u_ret, u_setS, u_par, u_nx, nxt_nx, nxt_rt, u_list, u_list0, u_var, u_con, u_bin, u_un1, u_and, u_or, u_chain, u_ite, u_blt, u_tup, u_lst, u_slc, u_opt, u_opt0, im_int, u_nm, u_tgs, u_tgs0, u_tupT, List.getElem?_cons_succ, List.getElem?_cons_zero, bind_ok, thenS_ok, thenI_ok, List.length_cons, List.length_nil, Nat.reduceAdd, Nat.reduceSub, Nat.reduceLT, Nat.reduceLeDiff, Nat.zero_le, if_true, om_some, List.set_cons_succ, List.set_cons_zero, bm_bl, Bool.not_true, Bool.not_false, Bool.false_eq_true, if_false, u_add, u_sub, u_neg, u_not, u_lt, u_le, u_gt, u_ge, u_eqI, u_neI, decide_true, decide_false, u_int, u_intb, methF, List.map_cons, List.map_nil, List.replicate, List.cons_append, List.nil_append, ec, ep, eb', ew, elr, u_for, hit, ef, hit2, ef2]
theorem law_true0 : ∀ ns : List Int, ns.length ≤ 63 → ∃ h', callK T 60 "law" [.ref 0] [.ro (ns.map .int)] = .ok (.bl true) h' := by
  intro ns _
  exact law_ends (m := 11) (body := F_law_b4) (by decide) (by decide) t_law rfl rfl (k65_cell ns)
end VM
namespace VM
open PySem PySem.Spec PyProof.Rows L2
abbrev pw : PySem.Program := PySem.Challenge.pw_sharetrail_k65_whole_alone_and_together
def topS (i : Nat) : Stmt := pw.main.body.getD i (.Pass ⟨0, 0, 0, 0⟩)
def row_is_whole : Row := ⟨"is_whole", topS 3, ["thing"], ["thing"], R_is_whole⟩
def row_is_within : Row := ⟨"is_within", topS 4, ["thing", "low", "high"], ["thing", "low", "high"], R_is_within⟩
def row_common : Row := ⟨"common", topS 5, ["one", "other"], ["one", "other"], R_common⟩
def row_made : Row := ⟨"made", topS 6, ["top", "bottom", "by"], ["top", "bottom"], R_made⟩
def row_plus : Row := ⟨"plus", topS 7, ["one", "other"], ["one", "other"], R_plus⟩
def row_less : Row := ⟨"less", topS 8, ["one", "other"], ["one", "other"], R_less⟩
def row_times : Row := ⟨"times", topS 9, ["one", "other"], ["one", "other"], R_times⟩
def row_so_many : Row := ⟨"so_many", topS 10, ["number", "amount"], ["number", "amount"], R_so_many⟩
def row_all_of : Row := ⟨"all_of", topS 11, ["amounts", "found", "amount"], ["amounts"], R_all_of⟩
def row_is_partner : Row := ⟨"is_partner", topS 19, ["train", "thing"], ["train", "thing"], R_is_partner⟩
def row_lies : Row := ⟨"lies", topS 20, ["loads", "load", "pieces"], ["loads", "load", "pieces"], R_lies⟩
def row_can_do : Row := ⟨"can_do", topS 21, ["state", "deed", "word", "loads", "holders", "numbers"], ["state", "deed"], R_can_do⟩
def row_with_less : Row := ⟨"with_less", topS 22, ["loads", "load", "pieces", "kind", "many", "owners"], ["loads", "load", "pieces"], R_with_less⟩
def row_pooled : Row := ⟨"pooled", topS 23, ["loads", "one", "other", "whole", "owners", "rest", "mine", "its", "share", "another", "both"], ["loads", "one", "other"], R_pooled⟩
def row_sold_of : Row := ⟨"sold_of", topS 24, ["shares", "partner", "other", "part", "passes", "found"], ["shares", "partner", "other", "part"], R_sold_of⟩
def row_borne_of : Row := ⟨"borne_of", topS 25, ["shares", "part", "owners", "kept", "share", "own"], ["shares", "part", "owners"], R_borne_of⟩
def row_worth_of : Row := ⟨"worth_of", topS 26, ["train", "loads", "worths", "load"], ["train", "loads", "worths"], R_worth_of⟩
def row_cost_in : Row := ⟨"cost_in", topS 27, ["train", "state", "deed", "loads"], ["train", "state", "deed"], R_cost_in⟩
def row_thrown : Row := ⟨"thrown", topS 28, ["train", "state", "deed", "rest", "loads", "holders", "numbers", "part", "owners", "kind", "pieces", "shares"], ["train", "state", "deed"], R_thrown⟩
def row_done : Row := ⟨"done", topS 29, ["train", "state", "deed", "word", "sold", "loads", "holders", "numbers", "owners", "partner", "other", "part", "one", "kind", "pieces", "shares"], ["train", "state", "deed"], R_done⟩
def row_begun : Row := ⟨"begun", topS 30, ["book"], ["book"], R_begun⟩
def row_after : Row := ⟨"after", topS 31, ["book", "many", "state", "deed"], ["book", "many"], R_after⟩
def row_wrong_in : Row := ⟨"wrong_in", topS 32, ["book", "state", "at", "deed"], ["book"], R_wrong_in⟩
def row_need_done : Row := ⟨"need_done", topS 33, ["book", "at"], ["book"], R_need_done⟩
def row_need_many : Row := ⟨"need_many", topS 34, ["book", "many"], ["book", "many"], R_need_many⟩
def row_need_partner : Row := ⟨"need_partner", topS 35, ["book", "partner"], ["book", "partner"], R_need_partner⟩
def row_loads_in : Row := ⟨"loads_in", topS 37, ["book", "many"], ["book", "many"], R_loads_in⟩
def row_theirs_in : Row := ⟨"theirs_in", topS 38, ["book", "many", "partner", "loads", "found", "kind", "some", "one", "pieces", "owners"], ["book", "many", "partner"], R_theirs_in⟩
def row_theirs_by : Row := ⟨"theirs_by", topS 39, ["book", "many", "partner"], ["book", "many", "partner"], R_theirs_by⟩
def row_given_by : Row := ⟨"given_by", topS 41, ["mine", "loads", "load", "many", "part"], ["mine", "loads", "load", "many"], R_given_by⟩
def row_do_alone : Row := ⟨"do_alone", topS 42, ["mine", "loads", "deed", "partner", "word"], ["mine", "loads", "deed", "partner"], R_do_alone⟩
def row_had_alone : Row := ⟨"had_alone", topS 43, ["book", "partner", "mine", "place", "deed", "kind", "pieces", "owners"], ["book", "partner"], R_had_alone⟩
def row_alone_in : Row := ⟨"alone_in", topS 44, ["book", "partner", "found", "load", "amount"], ["book", "partner"], R_alone_in⟩
def row_alone_of : Row := ⟨"alone_of", topS 45, ["book", "partner"], ["book", "partner"], R_alone_of⟩
def row_by_others : Row := ⟨"by_others", topS 46, ["book", "partner", "theirs", "one", "two"], ["book", "partner"], R_by_others⟩
def row_need_sale : Row := ⟨"need_sale", topS 48, ["book", "place"], ["book", "place"], R_need_sale⟩
def row_left_out : Row := ⟨"left_out", topS 49, ["book", "place", "train", "first", "deeds"], ["book", "place"], R_left_out⟩
def row_unsold : Row := ⟨"unsold", topS 50, ["book", "place"], ["book", "place"], R_unsold⟩
def row_stock_in : Row := ⟨"stock_in", topS 52, ["book", "state", "kind", "one", "pieces", "owners"], ["book", "state"], R_stock_in⟩
def row_stock_by : Row := ⟨"stock_by", topS 53, ["book", "many"], ["book", "many"], R_stock_by⟩
def row__law_pen : Row := ⟨"_law_pen", topS 55, ["_law_cell"], ["_law_cell"], R__law_pen⟩
def row__law_cell_at : Row := ⟨"_law_cell_at", topS 56, ["_law_script", "_law_k"], ["_law_script", "_law_k"], R__law_cell_at⟩
def row__law_draw : Row := ⟨"_law_draw", topS 57, ["_law_pen_here", "_law_bound", "_law_stir", "_law_found"], ["_law_pen_here", "_law_bound"], R__law_draw⟩
def row__law_common : Row := ⟨"_law_common", topS 58, ["_law_one", "_law_other"], ["_law_one", "_law_other"], R__law_common⟩
def row__law_made : Row := ⟨"_law_made", topS 59, ["_law_top", "_law_bottom", "_law_by"], ["_law_top", "_law_bottom"], R__law_made⟩
def row__law_whole : Row := ⟨"_law_whole", topS 60, ["_law_pen_here", "_law_many", "_law_weights", "_law_one", "_law_weight"], ["_law_pen_here", "_law_many"], R__law_whole⟩
def row__law_train : Row := ⟨"_law_train", topS 61, ["_law_pen_here", "_law_beasts", "_law_partners", "_law_kinds"], ["_law_pen_here"], R__law_train⟩
def row__law_pieces : Row := ⟨"_law_pieces", topS 62, ["_law_pen_here", "_law_great"], ["_law_pen_here"], R__law_pieces⟩
def row__law_first : Row := ⟨"_law_first", topS 63, ["_law_pen_here", "_law_train_here", "_law_found", "_law_k"], ["_law_pen_here", "_law_train_here"], R__law_first⟩
def row__law_begun : Row := ⟨"_law_begun", topS 64, ["_law_book_here", "_law_load"], ["_law_book_here"], R__law_begun⟩
def row__law_share : Row := ⟨"_law_share", topS 65, ["_law_pen_here", "_law_bottom"], ["_law_pen_here"], R__law_share⟩
def row__law_worths : Row := ⟨"_law_worths", topS 66, ["_law_pen_here", "_law_many", "_law_one"], ["_law_pen_here", "_law_many"], R__law_worths⟩
def row__law_deed : Row := ⟨"_law_deed", topS 67, ["_law_pen_here", "_law_train_here", "_law_state", "_law_full", "_law_way", "_law_load", "_law_some", "_law_loads", "_law_holders", "_law_numbers", "_law_same", "_law_kind", "_law_left", "_law_partner", "_law_at", "_law_number"], ["_law_pen_here", "_law_train_here", "_law_state"], R__law_deed⟩
def row__law_plus : Row := ⟨"_law_plus", topS 68, ["_law_one", "_law_other"], ["_law_one", "_law_other"], R__law_plus⟩
def row__law_times : Row := ⟨"_law_times", topS 69, ["_law_one", "_law_other"], ["_law_one", "_law_other"], R__law_times⟩
def row__law_pooled : Row := ⟨"_law_pooled", topS 70, ["_law_one", "_law_other", "_law_found", "_law_mine", "_law_its", "_law_both"], ["_law_one", "_law_other"], R__law_pooled⟩
def row__law_cost : Row := ⟨"_law_cost", topS 71, ["_law_train_here", "_law_loads", "_law_deed_here", "_law_worths_here", "_law_whole_here", "_law_kind", "_law_pieces_here", "_law_owners"], ["_law_train_here", "_law_loads", "_law_deed_here"], R__law_cost⟩
def row__law_less : Row := ⟨"_law_less", topS 72, ["_law_one", "_law_other"], ["_law_one", "_law_other"], R__law_less⟩
def row__law_borne : Row := ⟨"_law_borne", topS 73, ["_law_shares", "_law_part", "_law_owners", "_law_found", "_law_mine", "_law_its"], ["_law_shares", "_law_part", "_law_owners"], R__law_borne⟩
def row__law_sold : Row := ⟨"_law_sold", topS 74, ["_law_shares", "_law_deed_here", "_law_found", "_law_passes"], ["_law_shares", "_law_deed_here"], R__law_sold⟩
def row__law_turn : Row := ⟨"_law_turn", topS 75, ["_law_train_here", "_law_state", "_law_deed_here", "_law_loads", "_law_holders", "_law_numbers", "_law_load", "_law_part", "_law_owners"], ["_law_train_here", "_law_state", "_law_deed_here"], R__law_turn⟩
def row__law_do : Row := ⟨"_law_do", topS 76, ["_law_train_here", "_law_state", "_law_deed_here", "_law_word", "_law_loads", "_law_holders", "_law_numbers", "_law_one", "_law_other", "_law_load", "_law_given", "_law_kind", "_law_got"], ["_law_train_here", "_law_state", "_law_deed_here"], R__law_do⟩
def row__law_book : Row := ⟨"_law_book", topS 77, ["_law_pen_here", "_law_most", "_law_train_here", "_law_first_here", "_law_k", "_law_state", "_law_deeds", "_law_deed_here", "_law_one"], ["_law_pen_here", "_law_most"], R__law_book⟩
def row__law_book_of : Row := ⟨"_law_book_of", topS 78, ["_law_pen_here", "_law_most", "_law_word", "_law_book_here", "_law_turn_here", "_law_deed_here"], ["_law_pen_here", "_law_most", "_law_word"], R__law_book_of⟩
def row__law_without : Row := ⟨"_law_without", topS 79, ["_law_book_here", "_law_words", "_law_deeds", "_law_deed_here"], ["_law_book_here", "_law_words"], R__law_without⟩
def row__law_sum : Row := ⟨"_law_sum", topS 80, ["_law_some", "_law_found", "_law_one"], ["_law_some"], R__law_sum⟩
def row__law_sums : Row := ⟨"_law_sums", topS 81, ["_law_rows", "_law_at", "_law_row"], ["_law_rows"], R__law_sums⟩
def row__law_places : Row := ⟨"_law_places", topS 82, ["_law_book_here", "_law_word", "_law_at", "_law_deed_here"], ["_law_book_here", "_law_word"], R__law_places⟩
def row_law : Row := ⟨"law", topS 83, ["_law_script", "_law_k", "_law_pen_here", "_law_book_here", "_law_plain", "_law_everybody", "_law_one", "_law_partner", "_law_stock", "_law_more", "_law_due", "_law_at", "_law_pieces_here"], ["_law_script"], R_law⟩
def rows0 : List Row := [row_is_whole, row_is_within, row_common, row_made, row_plus, row_less, row_times, row_so_many, row_all_of, row_is_partner, row_lies, row_can_do, row_with_less, row_pooled, row_sold_of, row_borne_of, row_worth_of, row_cost_in, row_thrown, row_done]
def rows1 : List Row := [row_begun, row_after, row_wrong_in, row_need_done, row_need_many, row_need_partner, row_loads_in, row_theirs_in, row_theirs_by, row_given_by, row_do_alone, row_had_alone, row_alone_in, row_alone_of, row_by_others, row_need_sale, row_left_out, row_unsold, row_stock_in, row_stock_by]
def rows2 : List Row := [row__law_pen, row__law_cell_at, row__law_draw, row__law_common, row__law_made, row__law_whole, row__law_train, row__law_pieces, row__law_first, row__law_begun, row__law_share, row__law_worths, row__law_deed, row__law_plus, row__law_times, row__law_pooled, row__law_cost, row__law_less, row__law_borne, row__law_sold]
def rows3 : List Row := [row__law_turn, row__law_do, row__law_book, row__law_book_of, row__law_without, row__law_sum, row__law_sums, row__law_places, row_law]
def rows : List Row := rows0 ++ rows1 ++ rows2 ++ rows3
def names0 : List (Str × Nat) := [("is_whole", 1), ("is_within", 3), ("common", 2), ("made", 2), ("plus", 2), ("less", 2), ("times", 2), ("so_many", 2), ("all_of", 1), ("is_partner", 2), ("lies", 3), ("can_do", 2), ("with_less", 3), ("pooled", 3), ("sold_of", 4), ("borne_of", 3), ("worth_of", 3), ("cost_in", 3), ("thrown", 3), ("done", 3)]
def names1 : List (Str × Nat) := [("begun", 1), ("after", 2), ("wrong_in", 1), ("need_done", 1), ("need_many", 2), ("need_partner", 2), ("loads_in", 2), ("theirs_in", 3), ("theirs_by", 3), ("given_by", 4), ("do_alone", 4), ("had_alone", 2), ("alone_in", 2), ("alone_of", 2), ("by_others", 2), ("need_sale", 2), ("left_out", 2), ("unsold", 2), ("stock_in", 2), ("stock_by", 2)]
def names2 : List (Str × Nat) := [("_law_pen", 1), ("_law_cell_at", 2), ("_law_draw", 2), ("_law_common", 2), ("_law_made", 2), ("_law_whole", 2), ("_law_train", 1), ("_law_pieces", 1), ("_law_first", 2), ("_law_begun", 1), ("_law_share", 1), ("_law_worths", 2), ("_law_deed", 3), ("_law_plus", 2), ("_law_times", 2), ("_law_pooled", 2), ("_law_cost", 3), ("_law_less", 2), ("_law_borne", 3), ("_law_sold", 2)]
def names3 : List (Str × Nat) := [("_law_turn", 3), ("_law_do", 3), ("_law_book", 2), ("_law_book_of", 3), ("_law_without", 2), ("_law_sum", 1), ("_law_sums", 1), ("_law_places", 2), ("law", 1)]
def names : List (Str × Nat) := names0 ++ names1 ++ names2 ++ names3
def cons : List (Str × D) := [("ALL", (.tup [(.int 1), (.int 1)])), ("NOUGHT", (.tup [(.int 0), (.int 1)]))]
def blts : List Str := ["abs", "bool", "enumerate", "int", "isinstance", "len", "list", "max", "min", "range", "sum", "tuple", "zip"]
abbrev gl : Str → Option GV := glOf names cons blts
theorem c_is_whole : compFn 60 gl row_is_whole.N row_is_whole.st = some F_is_whole := by kernel_rfl
theorem b_is_whole : row_is_whole.Bd := fun _ _ _ _ _ _ us hl => match us, hl with | [_], _ => rfl
theorem k_is_whole : row_is_whole.okB = true := by decide +kernel
theorem c_is_within : compFn 60 gl row_is_within.N row_is_within.st = some F_is_within := by kernel_rfl
theorem b_is_within : row_is_within.Bd := fun _ _ _ _ _ _ us hl => match us, hl with | [_, _, _], _ => rfl
theorem k_is_within : row_is_within.okB = true := by decide +kernel
theorem c_common : compFn 60 gl row_common.N row_common.st = some F_common := by kernel_rfl
theorem b_common : row_common.Bd := fun _ _ _ _ _ _ us hl => match us, hl with | [_, _], _ => rfl
theorem k_common : row_common.okB = true := by decide +kernel
theorem c_made : compFn 60 gl row_made.N row_made.st = some F_made := by kernel_rfl
theorem b_made : row_made.Bd := fun _ _ _ _ _ _ us hl => match us, hl with | [_, _], _ => rfl
theorem k_made : row_made.okB = true := by decide +kernel
theorem c_plus : compFn 60 gl row_plus.N row_plus.st = some F_plus := by kernel_rfl
theorem b_plus : row_plus.Bd := fun _ _ _ _ _ _ us hl => match us, hl with | [_, _], _ => rfl
theorem k_plus : row_plus.okB = true := by decide +kernel
theorem c_less : compFn 60 gl row_less.N row_less.st = some F_less := by kernel_rfl
theorem b_less : row_less.Bd := fun _ _ _ _ _ _ us hl => match us, hl with | [_, _], _ => rfl
theorem k_less : row_less.okB = true := by decide +kernel
theorem c_times : compFn 60 gl row_times.N row_times.st = some F_times := by kernel_rfl
theorem b_times : row_times.Bd := fun _ _ _ _ _ _ us hl => match us, hl with | [_, _], _ => rfl
theorem k_times : row_times.okB = true := by decide +kernel
theorem c_so_many : compFn 60 gl row_so_many.N row_so_many.st = some F_so_many := by kernel_rfl
theorem b_so_many : row_so_many.Bd := fun _ _ _ _ _ _ us hl => match us, hl with | [_, _], _ => rfl
theorem k_so_many : row_so_many.okB = true := by decide +kernel
theorem c_all_of : compFn 60 gl row_all_of.N row_all_of.st = some F_all_of := by kernel_rfl
theorem b_all_of : row_all_of.Bd := fun _ _ _ _ _ _ us hl => match us, hl with | [_], _ => rfl
theorem k_all_of : row_all_of.okB = true := by decide +kernel
theorem c_is_partner : compFn 60 gl row_is_partner.N row_is_partner.st = some F_is_partner := by kernel_rfl
theorem b_is_partner : row_is_partner.Bd := fun _ _ _ _ _ _ us hl => match us, hl with | [_, _], _ => rfl
theorem k_is_partner : row_is_partner.okB = true := by decide +kernel
theorem c_lies : compFn 60 gl row_lies.N row_lies.st = some F_lies := by kernel_rfl
theorem b_lies : row_lies.Bd := fun _ _ _ _ _ _ us hl => match us, hl with | [_, _, _], _ => rfl
theorem k_lies : row_lies.okB = true := by decide +kernel
theorem c_can_do : compFn 60 gl row_can_do.N row_can_do.st = some F_can_do := by kernel_rfl
theorem b_can_do : row_can_do.Bd := fun _ _ _ _ _ _ us hl => match us, hl with | [_, _], _ => rfl
theorem k_can_do : row_can_do.okB = true := by decide +kernel
theorem c_with_less : compFn 60 gl row_with_less.N row_with_less.st = some F_with_less := by kernel_rfl
theorem b_with_less : row_with_less.Bd := fun _ _ _ _ _ _ us hl => match us, hl with | [_, _, _], _ => rfl
theorem k_with_less : row_with_less.okB = true := by decide +kernel
theorem c_pooled : compFn 60 gl row_pooled.N row_pooled.st = some F_pooled := by kernel_rfl
theorem b_pooled : row_pooled.Bd := fun _ _ _ _ _ _ us hl => match us, hl with | [_, _, _], _ => rfl
theorem k_pooled : row_pooled.okB = true := by decide +kernel
theorem c_sold_of : compFn 60 gl row_sold_of.N row_sold_of.st = some F_sold_of := by kernel_rfl
theorem b_sold_of : row_sold_of.Bd := fun _ _ _ _ _ _ us hl => match us, hl with | [_, _, _, _], _ => rfl
theorem k_sold_of : row_sold_of.okB = true := by decide +kernel
theorem c_borne_of : compFn 60 gl row_borne_of.N row_borne_of.st = some F_borne_of := by kernel_rfl
theorem b_borne_of : row_borne_of.Bd := fun _ _ _ _ _ _ us hl => match us, hl with | [_, _, _], _ => rfl
theorem k_borne_of : row_borne_of.okB = true := by decide +kernel
theorem c_worth_of : compFn 60 gl row_worth_of.N row_worth_of.st = some F_worth_of := by kernel_rfl
theorem b_worth_of : row_worth_of.Bd := fun _ _ _ _ _ _ us hl => match us, hl with | [_, _, _], _ => rfl
theorem k_worth_of : row_worth_of.okB = true := by decide +kernel
theorem c_cost_in : compFn 60 gl row_cost_in.N row_cost_in.st = some F_cost_in := by kernel_rfl
theorem b_cost_in : row_cost_in.Bd := fun _ _ _ _ _ _ us hl => match us, hl with | [_, _, _], _ => rfl
theorem k_cost_in : row_cost_in.okB = true := by decide +kernel
theorem c_thrown : compFn 60 gl row_thrown.N row_thrown.st = some F_thrown := by kernel_rfl
theorem b_thrown : row_thrown.Bd := fun _ _ _ _ _ _ us hl => match us, hl with | [_, _, _], _ => rfl
theorem k_thrown : row_thrown.okB = true := by decide +kernel
theorem c_done : compFn 60 gl row_done.N row_done.st = some F_done := by kernel_rfl
theorem b_done : row_done.Bd := fun _ _ _ _ _ _ us hl => match us, hl with | [_, _, _], _ => rfl
theorem k_done : row_done.okB = true := by decide +kernel
theorem c_begun : compFn 60 gl row_begun.N row_begun.st = some F_begun := by kernel_rfl
theorem b_begun : row_begun.Bd := fun _ _ _ _ _ _ us hl => match us, hl with | [_], _ => rfl
theorem k_begun : row_begun.okB = true := by decide +kernel
theorem c_after : compFn 60 gl row_after.N row_after.st = some F_after := by kernel_rfl
theorem b_after : row_after.Bd := fun _ _ _ _ _ _ us hl => match us, hl with | [_, _], _ => rfl
theorem k_after : row_after.okB = true := by decide +kernel
theorem c_wrong_in : compFn 60 gl row_wrong_in.N row_wrong_in.st = some F_wrong_in := by kernel_rfl
theorem b_wrong_in : row_wrong_in.Bd := fun _ _ _ _ _ _ us hl => match us, hl with | [_], _ => rfl
theorem k_wrong_in : row_wrong_in.okB = true := by decide +kernel
theorem c_need_done : compFn 60 gl row_need_done.N row_need_done.st = some F_need_done := by kernel_rfl
theorem b_need_done : row_need_done.Bd := fun _ _ _ _ _ _ us hl => match us, hl with | [_], _ => rfl
theorem k_need_done : row_need_done.okB = true := by decide +kernel
theorem c_need_many : compFn 60 gl row_need_many.N row_need_many.st = some F_need_many := by kernel_rfl
theorem b_need_many : row_need_many.Bd := fun _ _ _ _ _ _ us hl => match us, hl with | [_, _], _ => rfl
theorem k_need_many : row_need_many.okB = true := by decide +kernel
theorem c_need_partner : compFn 60 gl row_need_partner.N row_need_partner.st = some F_need_partner := by kernel_rfl
theorem b_need_partner : row_need_partner.Bd := fun _ _ _ _ _ _ us hl => match us, hl with | [_, _], _ => rfl
theorem k_need_partner : row_need_partner.okB = true := by decide +kernel
theorem c_loads_in : compFn 60 gl row_loads_in.N row_loads_in.st = some F_loads_in := by kernel_rfl
theorem b_loads_in : row_loads_in.Bd := fun _ _ _ _ _ _ us hl => match us, hl with | [_, _], _ => rfl
theorem k_loads_in : row_loads_in.okB = true := by decide +kernel
theorem c_theirs_in : compFn 60 gl row_theirs_in.N row_theirs_in.st = some F_theirs_in := by kernel_rfl
theorem b_theirs_in : row_theirs_in.Bd := fun _ _ _ _ _ _ us hl => match us, hl with | [_, _, _], _ => rfl
theorem k_theirs_in : row_theirs_in.okB = true := by decide +kernel
theorem c_theirs_by : compFn 60 gl row_theirs_by.N row_theirs_by.st = some F_theirs_by := by kernel_rfl
theorem b_theirs_by : row_theirs_by.Bd := fun _ _ _ _ _ _ us hl => match us, hl with | [_, _, _], _ => rfl
theorem k_theirs_by : row_theirs_by.okB = true := by decide +kernel
theorem c_given_by : compFn 60 gl row_given_by.N row_given_by.st = some F_given_by := by kernel_rfl
theorem b_given_by : row_given_by.Bd := fun _ _ _ _ _ _ us hl => match us, hl with | [_, _, _, _], _ => rfl
theorem k_given_by : row_given_by.okB = true := by decide +kernel
theorem c_do_alone : compFn 60 gl row_do_alone.N row_do_alone.st = some F_do_alone := by kernel_rfl
theorem b_do_alone : row_do_alone.Bd := fun _ _ _ _ _ _ us hl => match us, hl with | [_, _, _, _], _ => rfl
theorem k_do_alone : row_do_alone.okB = true := by decide +kernel
theorem c_had_alone : compFn 60 gl row_had_alone.N row_had_alone.st = some F_had_alone := by kernel_rfl
theorem b_had_alone : row_had_alone.Bd := fun _ _ _ _ _ _ us hl => match us, hl with | [_, _], _ => rfl
theorem k_had_alone : row_had_alone.okB = true := by decide +kernel
theorem c_alone_in : compFn 60 gl row_alone_in.N row_alone_in.st = some F_alone_in := by kernel_rfl
theorem b_alone_in : row_alone_in.Bd := fun _ _ _ _ _ _ us hl => match us, hl with | [_, _], _ => rfl
theorem k_alone_in : row_alone_in.okB = true := by decide +kernel
theorem c_alone_of : compFn 60 gl row_alone_of.N row_alone_of.st = some F_alone_of := by kernel_rfl
theorem b_alone_of : row_alone_of.Bd := fun _ _ _ _ _ _ us hl => match us, hl with | [_, _], _ => rfl
theorem k_alone_of : row_alone_of.okB = true := by decide +kernel
theorem c_by_others : compFn 60 gl row_by_others.N row_by_others.st = some F_by_others := by kernel_rfl
theorem b_by_others : row_by_others.Bd := fun _ _ _ _ _ _ us hl => match us, hl with | [_, _], _ => rfl
theorem k_by_others : row_by_others.okB = true := by decide +kernel
theorem c_need_sale : compFn 60 gl row_need_sale.N row_need_sale.st = some F_need_sale := by kernel_rfl
theorem b_need_sale : row_need_sale.Bd := fun _ _ _ _ _ _ us hl => match us, hl with | [_, _], _ => rfl
theorem k_need_sale : row_need_sale.okB = true := by decide +kernel
theorem c_left_out : compFn 60 gl row_left_out.N row_left_out.st = some F_left_out := by kernel_rfl
theorem b_left_out : row_left_out.Bd := fun _ _ _ _ _ _ us hl => match us, hl with | [_, _], _ => rfl
theorem k_left_out : row_left_out.okB = true := by decide +kernel
theorem c_unsold : compFn 60 gl row_unsold.N row_unsold.st = some F_unsold := by kernel_rfl
theorem b_unsold : row_unsold.Bd := fun _ _ _ _ _ _ us hl => match us, hl with | [_, _], _ => rfl
theorem k_unsold : row_unsold.okB = true := by decide +kernel
theorem c_stock_in : compFn 60 gl row_stock_in.N row_stock_in.st = some F_stock_in := by kernel_rfl
theorem b_stock_in : row_stock_in.Bd := fun _ _ _ _ _ _ us hl => match us, hl with | [_, _], _ => rfl
theorem k_stock_in : row_stock_in.okB = true := by decide +kernel
theorem c_stock_by : compFn 60 gl row_stock_by.N row_stock_by.st = some F_stock_by := by kernel_rfl
theorem b_stock_by : row_stock_by.Bd := fun _ _ _ _ _ _ us hl => match us, hl with | [_, _], _ => rfl
theorem k_stock_by : row_stock_by.okB = true := by decide +kernel
theorem c__law_pen : compFn 60 gl row__law_pen.N row__law_pen.st = some F__law_pen := by kernel_rfl
theorem b__law_pen : row__law_pen.Bd := fun _ _ _ _ _ _ us hl => match us, hl with | [_], _ => rfl
theorem k__law_pen : row__law_pen.okB = true := by decide +kernel
theorem c__law_cell_at : compFn 60 gl row__law_cell_at.N row__law_cell_at.st = some F__law_cell_at := by kernel_rfl
theorem b__law_cell_at : row__law_cell_at.Bd := fun _ _ _ _ _ _ us hl => match us, hl with | [_, _], _ => rfl
theorem k__law_cell_at : row__law_cell_at.okB = true := by decide +kernel
theorem c__law_draw : compFn 60 gl row__law_draw.N row__law_draw.st = some F__law_draw := by kernel_rfl
theorem b__law_draw : row__law_draw.Bd := fun _ _ _ _ _ _ us hl => match us, hl with | [_, _], _ => rfl
theorem k__law_draw : row__law_draw.okB = true := by decide +kernel
theorem c__law_common : compFn 60 gl row__law_common.N row__law_common.st = some F__law_common := by kernel_rfl
theorem b__law_common : row__law_common.Bd := fun _ _ _ _ _ _ us hl => match us, hl with | [_, _], _ => rfl
theorem k__law_common : row__law_common.okB = true := by decide +kernel
theorem c__law_made : compFn 60 gl row__law_made.N row__law_made.st = some F__law_made := by kernel_rfl
theorem b__law_made : row__law_made.Bd := fun _ _ _ _ _ _ us hl => match us, hl with | [_, _], _ => rfl
theorem k__law_made : row__law_made.okB = true := by decide +kernel
theorem c__law_whole : compFn 60 gl row__law_whole.N row__law_whole.st = some F__law_whole := by kernel_rfl
theorem b__law_whole : row__law_whole.Bd := fun _ _ _ _ _ _ us hl => match us, hl with | [_, _], _ => rfl
theorem k__law_whole : row__law_whole.okB = true := by decide +kernel
theorem c__law_train : compFn 60 gl row__law_train.N row__law_train.st = some F__law_train := by kernel_rfl
theorem b__law_train : row__law_train.Bd := fun _ _ _ _ _ _ us hl => match us, hl with | [_], _ => rfl
theorem k__law_train : row__law_train.okB = true := by decide +kernel
theorem c__law_pieces : compFn 60 gl row__law_pieces.N row__law_pieces.st = some F__law_pieces := by kernel_rfl
theorem b__law_pieces : row__law_pieces.Bd := fun _ _ _ _ _ _ us hl => match us, hl with | [_], _ => rfl
theorem k__law_pieces : row__law_pieces.okB = true := by decide +kernel
theorem c__law_first : compFn 60 gl row__law_first.N row__law_first.st = some F__law_first := by kernel_rfl
theorem b__law_first : row__law_first.Bd := fun _ _ _ _ _ _ us hl => match us, hl with | [_, _], _ => rfl
theorem k__law_first : row__law_first.okB = true := by decide +kernel
theorem c__law_begun : compFn 60 gl row__law_begun.N row__law_begun.st = some F__law_begun := by kernel_rfl
theorem b__law_begun : row__law_begun.Bd := fun _ _ _ _ _ _ us hl => match us, hl with | [_], _ => rfl
theorem k__law_begun : row__law_begun.okB = true := by decide +kernel
theorem c__law_share : compFn 60 gl row__law_share.N row__law_share.st = some F__law_share := by kernel_rfl
theorem b__law_share : row__law_share.Bd := fun _ _ _ _ _ _ us hl => match us, hl with | [_], _ => rfl
theorem k__law_share : row__law_share.okB = true := by decide +kernel
theorem c__law_worths : compFn 60 gl row__law_worths.N row__law_worths.st = some F__law_worths := by kernel_rfl
theorem b__law_worths : row__law_worths.Bd := fun _ _ _ _ _ _ us hl => match us, hl with | [_, _], _ => rfl
theorem k__law_worths : row__law_worths.okB = true := by decide +kernel
theorem c__law_deed : compFn 60 gl row__law_deed.N row__law_deed.st = some F__law_deed := by kernel_rfl
theorem b__law_deed : row__law_deed.Bd := fun _ _ _ _ _ _ us hl => match us, hl with | [_, _, _], _ => rfl
theorem k__law_deed : row__law_deed.okB = true := by decide +kernel
theorem c__law_plus : compFn 60 gl row__law_plus.N row__law_plus.st = some F__law_plus := by kernel_rfl
theorem b__law_plus : row__law_plus.Bd := fun _ _ _ _ _ _ us hl => match us, hl with | [_, _], _ => rfl
theorem k__law_plus : row__law_plus.okB = true := by decide +kernel
theorem c__law_times : compFn 60 gl row__law_times.N row__law_times.st = some F__law_times := by kernel_rfl
theorem b__law_times : row__law_times.Bd := fun _ _ _ _ _ _ us hl => match us, hl with | [_, _], _ => rfl
theorem k__law_times : row__law_times.okB = true := by decide +kernel
theorem c__law_pooled : compFn 60 gl row__law_pooled.N row__law_pooled.st = some F__law_pooled := by kernel_rfl
theorem b__law_pooled : row__law_pooled.Bd := fun _ _ _ _ _ _ us hl => match us, hl with | [_, _], _ => rfl
theorem k__law_pooled : row__law_pooled.okB = true := by decide +kernel
theorem c__law_cost : compFn 60 gl row__law_cost.N row__law_cost.st = some F__law_cost := by kernel_rfl
theorem b__law_cost : row__law_cost.Bd := fun _ _ _ _ _ _ us hl => match us, hl with | [_, _, _], _ => rfl
theorem k__law_cost : row__law_cost.okB = true := by decide +kernel
theorem c__law_less : compFn 60 gl row__law_less.N row__law_less.st = some F__law_less := by kernel_rfl
theorem b__law_less : row__law_less.Bd := fun _ _ _ _ _ _ us hl => match us, hl with | [_, _], _ => rfl
theorem k__law_less : row__law_less.okB = true := by decide +kernel
theorem c__law_borne : compFn 60 gl row__law_borne.N row__law_borne.st = some F__law_borne := by kernel_rfl
theorem b__law_borne : row__law_borne.Bd := fun _ _ _ _ _ _ us hl => match us, hl with | [_, _, _], _ => rfl
theorem k__law_borne : row__law_borne.okB = true := by decide +kernel
theorem c__law_sold : compFn 60 gl row__law_sold.N row__law_sold.st = some F__law_sold := by kernel_rfl
theorem b__law_sold : row__law_sold.Bd := fun _ _ _ _ _ _ us hl => match us, hl with | [_, _], _ => rfl
theorem k__law_sold : row__law_sold.okB = true := by decide +kernel
theorem c__law_turn : compFn 60 gl row__law_turn.N row__law_turn.st = some F__law_turn := by kernel_rfl
theorem b__law_turn : row__law_turn.Bd := fun _ _ _ _ _ _ us hl => match us, hl with | [_, _, _], _ => rfl
theorem k__law_turn : row__law_turn.okB = true := by decide +kernel
theorem c__law_do : compFn 60 gl row__law_do.N row__law_do.st = some F__law_do := by kernel_rfl
theorem b__law_do : row__law_do.Bd := fun _ _ _ _ _ _ us hl => match us, hl with | [_, _, _], _ => rfl
theorem k__law_do : row__law_do.okB = true := by decide +kernel
theorem c__law_book : compFn 60 gl row__law_book.N row__law_book.st = some F__law_book := by kernel_rfl
theorem b__law_book : row__law_book.Bd := fun _ _ _ _ _ _ us hl => match us, hl with | [_, _], _ => rfl
theorem k__law_book : row__law_book.okB = true := by decide +kernel
theorem c__law_book_of : compFn 60 gl row__law_book_of.N row__law_book_of.st = some F__law_book_of := by kernel_rfl
theorem b__law_book_of : row__law_book_of.Bd := fun _ _ _ _ _ _ us hl => match us, hl with | [_, _, _], _ => rfl
theorem k__law_book_of : row__law_book_of.okB = true := by decide +kernel
theorem c__law_without : compFn 60 gl row__law_without.N row__law_without.st = some F__law_without := by kernel_rfl
theorem b__law_without : row__law_without.Bd := fun _ _ _ _ _ _ us hl => match us, hl with | [_, _], _ => rfl
theorem k__law_without : row__law_without.okB = true := by decide +kernel
theorem c__law_sum : compFn 60 gl row__law_sum.N row__law_sum.st = some F__law_sum := by kernel_rfl
theorem b__law_sum : row__law_sum.Bd := fun _ _ _ _ _ _ us hl => match us, hl with | [_], _ => rfl
theorem k__law_sum : row__law_sum.okB = true := by decide +kernel
theorem c__law_sums : compFn 60 gl row__law_sums.N row__law_sums.st = some F__law_sums := by kernel_rfl
theorem b__law_sums : row__law_sums.Bd := fun _ _ _ _ _ _ us hl => match us, hl with | [_], _ => rfl
theorem k__law_sums : row__law_sums.okB = true := by decide +kernel
theorem c__law_places : compFn 60 gl row__law_places.N row__law_places.st = some F__law_places := by kernel_rfl
theorem b__law_places : row__law_places.Bd := fun _ _ _ _ _ _ us hl => match us, hl with | [_, _], _ => rfl
theorem k__law_places : row__law_places.okB = true := by decide +kernel
theorem c_law : compFn 60 gl row_law.N row_law.st = some F_law := by kernel_rfl
theorem b_law : row_law.Bd := fun _ _ _ _ _ _ us hl => match us, hl with | [_], _ => rfl
theorem k_law : row_law.okB = true := by decide +kernel
theorem rows_ok : RowsOk gl rows := ⟨⟨k_is_whole, c_is_whole, b_is_whole⟩, ⟨⟨k_is_within, c_is_within, b_is_within⟩, ⟨⟨k_common, c_common, b_common⟩, ⟨⟨k_made, c_made, b_made⟩, ⟨⟨k_plus, c_plus, b_plus⟩, ⟨⟨k_less, c_less, b_less⟩, ⟨⟨k_times, c_times, b_times⟩, ⟨⟨k_so_many, c_so_many, b_so_many⟩, ⟨⟨k_all_of, c_all_of, b_all_of⟩, ⟨⟨k_is_partner, c_is_partner, b_is_partner⟩, ⟨⟨k_lies, c_lies, b_lies⟩, ⟨⟨k_can_do, c_can_do, b_can_do⟩, ⟨⟨k_with_less, c_with_less, b_with_less⟩, ⟨⟨k_pooled, c_pooled, b_pooled⟩, ⟨⟨k_sold_of, c_sold_of, b_sold_of⟩, ⟨⟨k_borne_of, c_borne_of, b_borne_of⟩, ⟨⟨k_worth_of, c_worth_of, b_worth_of⟩, ⟨⟨k_cost_in, c_cost_in, b_cost_in⟩, ⟨⟨k_thrown, c_thrown, b_thrown⟩, ⟨⟨k_done, c_done, b_done⟩, ⟨⟨k_begun, c_begun, b_begun⟩, ⟨⟨k_after, c_after, b_after⟩, ⟨⟨k_wrong_in, c_wrong_in, b_wrong_in⟩, ⟨⟨k_need_done, c_need_done, b_need_done⟩, ⟨⟨k_need_many, c_need_many, b_need_many⟩, ⟨⟨k_need_partner, c_need_partner, b_need_partner⟩, ⟨⟨k_loads_in, c_loads_in, b_loads_in⟩, ⟨⟨k_theirs_in, c_theirs_in, b_theirs_in⟩, ⟨⟨k_theirs_by, c_theirs_by, b_theirs_by⟩, ⟨⟨k_given_by, c_given_by, b_given_by⟩, ⟨⟨k_do_alone, c_do_alone, b_do_alone⟩, ⟨⟨k_had_alone, c_had_alone, b_had_alone⟩, ⟨⟨k_alone_in, c_alone_in, b_alone_in⟩, ⟨⟨k_alone_of, c_alone_of, b_alone_of⟩, ⟨⟨k_by_others, c_by_others, b_by_others⟩, ⟨⟨k_need_sale, c_need_sale, b_need_sale⟩, ⟨⟨k_left_out, c_left_out, b_left_out⟩, ⟨⟨k_unsold, c_unsold, b_unsold⟩, ⟨⟨k_stock_in, c_stock_in, b_stock_in⟩, ⟨⟨k_stock_by, c_stock_by, b_stock_by⟩, ⟨⟨k__law_pen, c__law_pen, b__law_pen⟩, ⟨⟨k__law_cell_at, c__law_cell_at, b__law_cell_at⟩, ⟨⟨k__law_draw, c__law_draw, b__law_draw⟩, ⟨⟨k__law_common, c__law_common, b__law_common⟩, ⟨⟨k__law_made, c__law_made, b__law_made⟩, ⟨⟨k__law_whole, c__law_whole, b__law_whole⟩, ⟨⟨k__law_train, c__law_train, b__law_train⟩, ⟨⟨k__law_pieces, c__law_pieces, b__law_pieces⟩, ⟨⟨k__law_first, c__law_first, b__law_first⟩, ⟨⟨k__law_begun, c__law_begun, b__law_begun⟩, ⟨⟨k__law_share, c__law_share, b__law_share⟩, ⟨⟨k__law_worths, c__law_worths, b__law_worths⟩, ⟨⟨k__law_deed, c__law_deed, b__law_deed⟩, ⟨⟨k__law_plus, c__law_plus, b__law_plus⟩, ⟨⟨k__law_times, c__law_times, b__law_times⟩, ⟨⟨k__law_pooled, c__law_pooled, b__law_pooled⟩, ⟨⟨k__law_cost, c__law_cost, b__law_cost⟩, ⟨⟨k__law_less, c__law_less, b__law_less⟩, ⟨⟨k__law_borne, c__law_borne, b__law_borne⟩, ⟨⟨k__law_sold, c__law_sold, b__law_sold⟩, ⟨⟨k__law_turn, c__law_turn, b__law_turn⟩, ⟨⟨k__law_do, c__law_do, b__law_do⟩, ⟨⟨k__law_book, c__law_book, b__law_book⟩, ⟨⟨k__law_book_of, c__law_book_of, b__law_book_of⟩, ⟨⟨k__law_without, c__law_without, b__law_without⟩, ⟨⟨k__law_sum, c__law_sum, b__law_sum⟩, ⟨⟨k__law_sums, c__law_sums, b__law_sums⟩, ⟨⟨k__law_places, c__law_places, b__law_places⟩, ⟨⟨k_law, c_law, b_law⟩, trivial⟩⟩⟩⟩⟩⟩⟩⟩⟩⟩⟩⟩⟩⟩⟩⟩⟩⟩⟩⟩⟩⟩⟩⟩⟩⟩⟩⟩⟩⟩⟩⟩⟩⟩⟩⟩⟩⟩⟩⟩⟩⟩⟩⟩⟩⟩⟩⟩⟩⟩⟩⟩⟩⟩⟩⟩⟩⟩⟩⟩⟩⟩⟩⟩⟩⟩⟩⟩⟩
theorem rows_names : rows.map (fun r => (r.x, r.ps.length)) = names := by rfl
def lawIx : Nat := 83
def loose0 : List PySem.Str := ["__name__", "NOUGHT", "ALL", "is_whole", "is_within", "common", "made", "plus", "less", "times", "so_many", "all_of", "TrailError", "NotDone", "NoNumber", "NoPartner", "NoSale", "is_partner", "lies", "can_do"]
def loose1 : List PySem.Str := ["with_less", "pooled", "sold_of", "borne_of", "worth_of", "cost_in", "thrown", "done", "begun", "after", "wrong_in", "need_done", "need_many", "need_partner", "loads_in", "theirs_in", "theirs_by", "given_by", "do_alone", "had_alone"]
def loose2 : List PySem.Str := ["alone_in", "alone_of", "by_others", "need_sale", "left_out", "unsold", "stock_in", "stock_by", "_law_pen", "_law_cell_at", "_law_draw", "_law_common", "_law_made", "_law_whole", "_law_train", "_law_pieces", "_law_first", "_law_begun", "_law_share", "_law_worths"]
def loose3 : List PySem.Str := ["_law_deed", "_law_plus", "_law_times", "_law_pooled", "_law_cost", "_law_less", "_law_borne", "_law_sold", "_law_turn", "_law_do", "_law_book", "_law_book_of", "_law_without", "_law_sum", "_law_sums", "_law_places"]
def loose : List PySem.Str := loose0 ++ loose1 ++ loose2 ++ loose3
theorem law_true : ∀ ns : List Int, ns.length ≤ 63 → ∃ h', callK (tblOf (rows.map fun r => (r.x, r.fr))) 60 "law" [.ref 0] [.ro (ns.map .int)] = .ok (.bl true) h' := by
  have e : tblOf (rows.map fun r => (r.x, r.fr)) = T := by
    rw [T_eq]
    kernel_rfl
  rw [e]
  exact law_true0
abbrev Rw : PySem.W.OpenRow := PySem.W.OpenLaw.row PySem.Challenge.rw_sharetrail_k65_whole_alone_and_together
abbrev hk : PySem.W.Hook := hookV 4 rows cons blts
def ob (s : PySem.W.SharedT) : AlV := obsVG 4 rows cons blts (HandSHeadRun.getT s)
theorem ob_eq (s : PySem.W.SharedT) : ob s = hk.obs s.abs := obsVG_eq (HandSHeadRun.getT_eq s)
theorem run (w : World) : HandSHeadRun.RunEq Rw (PySem.W.view Rw.prog [lawIx]) hk ob 40000 loose w := by
  intro os
  kernel_rfl
end VM
open PySem PySem.W PySem.Calls PyProof.Rows
theorem PySem.Challenge.cw_sharetrail_k65_whole_alone_and_together_holds : PySem.Challenge.rw_sharetrail_k65_whole_alone_and_together.Holds := by
  w_on; o_law
  refine HandSHeadRun.head_any (r := OpenLaw.row PySem.Challenge.rw_sharetrail_k65_whole_alone_and_together) (q := view (OpenLaw.row PySem.Challenge.rw_sharetrail_k65_whole_alone_and_together).prog [VM.lawIx]) (H := VM.hk) (ob := VM.ob) (M := 40000) (loose := VM.loose) (d := HandSHeadRun.topDef (OpenLaw.row PySem.Challenge.rw_sharetrail_k65_whole_alone_and_together).prog VM.lawIx) (kwd := []) VM.ob_eq
    (by kernel_rfl) (fun s => by kernel_rfl) VM.run (by kernel_rfl) (by kernel_rfl) (by kernel_rfl) (by rfl) (by first | assumption | decide +kernel) (by decide +kernel) ⟨rfl, rfl, rfl, rfl, rfl, by decide +kernel⟩ ?hw ?hc
  case hw => w_witness2
  case hc =>
    refine VM.walkV (l := PySem.Challenge.rw_sharetrail_k65_whole_alone_and_together) (n := 63) (k := 60) (x := "_law_script") rfl (by decide) (by kernel_rfl) ⟨rfl, by decide, by decide⟩ ?F
    intro w mg fa h Y G hmg0
    obtain ⟨K, KX, c⟩ := Y
    have hmg : mg ("law" : PySem.Str) = some (.ref fa) := by
      have e : (HandSHeadRun.topDef (OpenLaw.row PySem.Challenge.rw_sharetrail_k65_whole_alone_and_together).prog VM.lawIx).name = ("law" : PySem.Str) := by kernel_rfl
      rw [← e]
      exact hmg0
    obtain ⟨fd, sp, h1, h2, h3⟩ := VM.law_end (P := (PySem.Challenge.rw_sharetrail_k65_whole_alone_and_together).prog) (w := w) (k := 60) c KX G VM.rows_names VM.rows_ok (by kernel_rfl) "_law_script" (by decide +kernel) hmg VM.law_true
    exact ⟨K, KX, fd, sp, h1, h2, h3⟩
